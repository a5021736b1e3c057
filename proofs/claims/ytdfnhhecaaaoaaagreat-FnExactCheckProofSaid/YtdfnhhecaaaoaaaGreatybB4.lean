/- Stores and steps: sizes, copies, equalities. No condition. -/
import Derived.Test.YtdfnhhecaaaoaaaGreatybB0
import Derived.Test.YtdfnhhecaaaoaaaGreatybB2
namespace Go.Aw
open Go.Proofs
attribute [local irreducible] aft blk lpK retK AW Z9
set_option linter.all false
set_option maxRecDepth 100000
def a0s (x:d6):Nat:=(x.V.length+n0 w5 x.V)
def b4S (x:f8):Nat:=(x.Rows.length+n0 a0s x.Rows)
def v5 (x:c9):Nat:=x.Name.length+b4S x.Rel
def a8z (x:d8):Nat:=(x.Rels.length+n0 v5 x.Rels)
def a0d (x:d9):Nat:=x.Name.length+a0s x.Row+b4R x.Env
@[go_sem] def a8S:ACode:=q' 4 [aK 0] (q' 6 [aM [1,0],aN,ao (.bin .sub (.t 6) (.t 8)),aV 1] (.seq (q' 10 [am 1,ao (.bin .lss (.t 10) (k' 0))] (.cond (.t 11) (q' 4 [ao (.mov (.k (.v false
 [.c (.i .i64 (-1))])))] .ret) .skip)) (.seq (q' 5 [aK 0] (.block 0 (.loop (.seq (q' 12 [aM [5,0],aN,ar 12 14] (.cond (.t 15) .skip (.exit 0))) (.seq (.block 1
 (q' 18 [aM [0,5],aI 2,aE 2,am 1,ac 319 [21,22],aV 1] (q' 24 [am 1,ao (.bin .lss (.t 24) (k' 0))] (.cond (.t 25) (q' 4 [ao (.mov (.k (.v false [.c (.i .i64
 (-1))])))] .ret) .skip)))) (g' 16 [aB 5])))))) (q' 26 [am 1,aV 4] .ret))))
theorem b1B (a:List c7) (left:Int) (hpre:0≤left∧left≤1048576):Z9 Tryz.prog 205 [(false,[.sl false [.i .i64 0,.s []] (a.map c7.cells)]),(false,[.i .i64 left])] [] (.one (false,[.i .i64 (szR left ((a.length+n0 w5 a):Nat))])):=by
 refine sx' false false none Tryz.func205 a8S [.t 4] [(319,[],a0C)] ?_
 intro hb hE
 simp only [go_sem];(repeat' first | apply CJ.mk | intro hc);all_goals try exact om'
 ·all_goals ((repeat (simp (disch:=omega) only [p6] at *))<;>(try simp only [szR,szR] at *)<;>(first | omega | (split<;>omega)))
 have hw:=p6 (l:=left) (n:=a.length) (by omega) (by omega) (by omega) (by omega)
 rw [hw] at hc
 refine lq' false [0] [] [] (fun i:{i:Nat // i≤a.length∧(a.length:Int)+(n0 w5 (a.take i):Nat)≤left}=>[(5,slV (.i .i64 i.1)),(1,slV (.i .i64 (left - a.length - (n0 w5 (a.take i.1):Nat))))]) nl' nl' (fun i=>a.length - i.1) (⟨0,by simp only [List.take_zero,a0l];omega⟩) ?_
 intro S0 hS0 i
 obtain ⟨i,hi,ht⟩:=i
 simp only [go_sem,hw,hS0];(repeat' first | apply CJ.mk | intro hc);all_goals try exact om'
 ·have h1:=i7 w5 (default:c7) (show i < a.length by omega)
  have h2:=s7 w5 a (i+1)
  all_goals ((repeat (simp (disch:=omega) only [p6] at *))<;>(try simp only [szR,szR] at *)<;>(first | omega | (split<;>omega)))
 ·have h1:=i7 w5 (default:c7) (show i < a.length by omega)
  (refine lpK_n2 (⟨i+1,by omega,by unfold szR at hc;split at hc<;>omega⟩) _ rfl ?_;simp only [go_sem,hw,hS0];first | done | ((repeat' apply And.intro)<;>try exact on'))
  rw [h1]
  unfold szR at hc ⊢
  split at hc<;>omega
 ·have h1:=a0Q w5 (show ¬ i < a.length by omega)
  all_goals ((repeat (simp (disch:=omega) only [p6] at *))<;>(try simp only [szR,szR] at *)<;>(first | omega | (split<;>omega)))
 all_goals all_goals ((repeat (simp (disch:=omega) only [p6] at *))<;>(try simp only [szR,szR] at *)<;>(first | omega | (split<;>omega)))
noncomputable def a3M:CT:=l5 (fun (x:(List c7)×Int) h=>b1B x.1 x.2 h)
@[go_sem] def c1M:=fun a x0=>nm' (fP' a3M rfl (a,x0))
@[go_sem] def b5q:ACode:=q' 2 [ao (.box 1 (.t 0)),az 4 0] (q' 5 [aG 0 2,am 1,ac 205 [6,7],aV 1] (.seq (q' 9 [am 1,ao (.bin .lss (.t 9) (k' 0))] (.cond (.t 10) (q' 4 [ao (.mov (.k (.v
 false [.c (.i .i64 (-1))])))] .ret) .skip)) (q' 11 [am 1,aV 4] .ret)))
theorem b8p (a:d6) (left:Int) (hpre:0≤left∧left≤1048576):Z9 Tryz.prog 101 [(true,[.sl false [.i .i64 0,.s []] (a.V.map c7.cells)]),(false,[.i .i64 left])] [] (.one (false,[.i .i64 (szR left (a0s a:Nat))])):=by
 refine sx' false false none Tryz.func101 b5q [.t 4] [(205,[],a3M)] ?_
 intro hb hE
 simp only [go_sem];(repeat' first | apply CJ.mk | intro hc);all_goals try exact om'
 all_goals ((repeat (simp (disch:=omega) only [p6] at *))<;>(try simp only [szR,a0s] at *)<;>(first | omega | (split<;>omega)))
noncomputable def a3o:CT:=l5 (fun (x:d6×Int) h=>b8p x.1 x.2 h)
@[go_sem] def c6v:=fun x0 x1=>nm' (fP' a3o rfl (⟨x0⟩,x1))
@[go_sem] def b2y:ACode:=q' 4 [aK 0] (q' 6 [aM [1,0],aN,ao (.bin .sub (.t 6) (.t 8)),aV 1] (.seq (q' 10 [am 1,ao (.bin .lss (.t 10) (k' 0))] (.cond (.t 11) (q' 4 [ao (.mov (.k (.v false
 [.c (.i .i64 (-1))])))] .ret) .skip)) (.seq (q' 5 [aK 0] (.block 0 (.loop (.seq (q' 12 [aM [5,0],aN,ar 12 14] (.cond (.t 15) .skip (.exit 0))) (.seq (.block 1
 (q' 18 [aM [0,5],aI 1,aE 1,am 1,ac 101 [21,22],aV 1] (q' 24 [am 1,ao (.bin .lss (.t 24) (k' 0))] (.cond (.t 25) (q' 4 [ao (.mov (.k (.v false [.c (.i .i64
 (-1))])))] .ret) .skip)))) (g' 16 [aB 5])))))) (q' 26 [am 1,aV 4] .ret))))
theorem b6e (a:List d6) (left:Int) (hpre:0≤left∧left≤1048576):Z9 Tryz.prog 347 [(false,[.sl false [.sl false [.i .i64 0,.s []] []] (a.map (d6.cells false false))]),(false,[.i .i64 left])] [] (.one (false,[.i .i64 (szR left ((a.length+n0 a0s a):Nat))])):=by
 refine sx' false false none Tryz.func347 b2y [.t 4] [(101,[],a3o)] ?_
 intro hb hE
 simp only [go_sem];(repeat' first | apply CJ.mk | intro hc);all_goals try exact om'
 ·all_goals ((repeat (simp (disch:=omega) only [p6] at *))<;>(try simp only [szR,szR] at *)<;>(first | omega | (split<;>omega)))
 have hw:=p6 (l:=left) (n:=a.length) (by omega) (by omega) (by omega) (by omega)
 rw [hw] at hc
 refine lq' false [0] [] [] (fun i:{i:Nat // i≤a.length∧(a.length:Int)+(n0 a0s (a.take i):Nat)≤left}=>[(5,slV (.i .i64 i.1)),(1,slV (.i .i64 (left - a.length - (n0 a0s (a.take i.1):Nat))))]) nl' nl' (fun i=>a.length - i.1) (⟨0,by simp only [List.take_zero,a0l];omega⟩) ?_
 intro S0 hS0 i
 obtain ⟨i,hi,ht⟩:=i
 simp only [go_sem,hw,hS0];(repeat' first | apply CJ.mk | intro hc);all_goals try exact om'
 ·have h1:=i7 a0s (default:d6) (show i < a.length by omega)
  have h2:=s7 a0s a (i+1)
  all_goals ((repeat (simp (disch:=omega) only [p6] at *))<;>(try simp only [szR,szR] at *)<;>(first | omega | (split<;>omega)))
 ·have h1:=i7 a0s (default:d6) (show i < a.length by omega)
  (refine lpK_n2 (⟨i+1,by omega,by unfold szR at hc;split at hc<;>omega⟩) _ rfl ?_;simp only [go_sem,hw,hS0];first | done | ((repeat' apply And.intro)<;>try exact on'))
  rw [h1]
  unfold szR at hc ⊢
  split at hc<;>omega
 ·have h1:=a0Q a0s (show ¬ i < a.length by omega)
  all_goals ((repeat (simp (disch:=omega) only [p6] at *))<;>(try simp only [szR,szR] at *)<;>(first | omega | (split<;>omega)))
 all_goals all_goals ((repeat (simp (disch:=omega) only [p6] at *))<;>(try simp only [szR,szR] at *)<;>(first | omega | (split<;>omega)))
noncomputable def a5S:CT:=l5 (fun (x:(List d6)×Int) h=>b6e x.1 x.2 h)
@[go_sem] def c4W:=fun a x0=>nm' (fP' a5S rfl (a,x0))
@[go_sem] def b5p:ACode:=q' 2 [ao (.box 2 (.t 0)),az 4 0] (q' 5 [aG 1 2,am 1,ac 347 [6,7],aV 1] (.seq (q' 9 [am 1,ao (.bin .lss (.t 9) (k' 0))] (.cond (.t 10) (q' 4 [ao (.mov (.k (.v
 false [.c (.i .i64 (-1))])))] .ret) .skip)) (q' 11 [am 1,aV 4] .ret)))
theorem b8o (a:f8) (left:Int) (hpre:0≤left∧left≤1048576):Z9 Tryz.prog 258 [(true,[.i .i64 a.Arity,.sl false [.sl false [.i .i64 0,.s []] []] (a.Rows.map (d6.cells false false))]),(false,[.i .i64 left])] [] (.one (false,[.i .i64 (szR left (b4S a:Nat))])):=by
 refine sx' false false none Tryz.func258 b5p [.t 4] [(347,[],a5S)] ?_
 intro hb hE
 simp only [go_sem];(repeat' first | apply CJ.mk | intro hc);all_goals try exact om'
 all_goals ((repeat (simp (disch:=omega) only [p6] at *))<;>(try simp only [szR,b4S] at *)<;>(first | omega | (split<;>omega)))
noncomputable def a7H:CT:=l5 (fun (x:f8×Int) h=>b8o x.1 x.2 h)
@[go_sem] def c6u:=fun x0 x1 x2=>nm' (fP' a7H rfl (⟨x0,x1⟩,x2))
@[go_sem] def b0M:ACode:=q' 2 [ao (.box 3 (.t 0)),az 4 0] (q' 5 [am 1,aG 0 2,ao (.lens (.t 7)),ao (.bin .sub (.t 5) (.t 8)),aV 1] (.seq (q' 10 [am 1,ao (.bin .lss (.t 10) (k' 0))]
 (.cond (.t 11) (q' 4 [ao (.mov (.k (.v false [.c (.i .i64 (-1))])))] .ret) .skip)) (q' 12 [af 1 2,aE 2,am 1,ac 258 [13,14],aV 1] (.seq (q' 16 [am 1,ao (.bin
 .lss (.t 16) (k' 0))] (.cond (.t 17) (q' 4 [ao (.mov (.k (.v false [.c (.i .i64 (-1))])))] .ret) .skip)) (q' 18 [am 1,aV 4] .ret)))))
theorem b4b (a:c9) (left:Int) (hpre:0≤left∧left≤1048576):Z9 Tryz.prog 144 [(true,[.s a.Name,.i .i64 a.Rel.Arity,.sl false [.sl false [.i .i64 0,.s []] []] (a.Rel.Rows.map (d6.cells false false))]),(false,[.i .i64 left])] [] (.one (false,[.i .i64 (szR left (v5 a:Nat))])):=by
 refine sx' false false none Tryz.func144 b0M [.t 4] [(258,[],a7H)] ?_
 intro hb hE
 simp only [go_sem];(repeat' first | apply CJ.mk | intro hc);all_goals try exact om'
 all_goals ((repeat (simp (disch:=omega) only [p6] at *))<;>(try simp only [szR,v5] at *)<;>(first | omega | (split<;>omega)))
noncomputable def a4G:CT:=l5 (fun (x:c9×Int) h=>b4b x.1 x.2 h)
@[go_sem] def c3e:=fun x0 x1 x2 x3=>nm' (fP' a4G rfl (⟨x0,⟨x1,x2⟩⟩,x3))
@[go_sem] def a8R:ACode:=q' 4 [aK 0] (q' 6 [aM [1,0],aN,ao (.bin .sub (.t 6) (.t 8)),aV 1] (.seq (q' 10 [am 1,ao (.bin .lss (.t 10) (k' 0))] (.cond (.t 11) (q' 4 [ao (.mov (.k (.v false
 [.c (.i .i64 (-1))])))] .ret) .skip)) (.seq (q' 5 [aK 0] (.block 0 (.loop (.seq (q' 12 [aM [5,0],aN,ar 12 14] (.cond (.t 15) .skip (.exit 0))) (.seq (.block 1
 (q' 18 [aM [0,5],aI 3,aE 3,am 1,ac 144 [21,22],aV 1] (q' 24 [am 1,ao (.bin .lss (.t 24) (k' 0))] (.cond (.t 25) (q' 4 [ao (.mov (.k (.v false [.c (.i .i64
 (-1))])))] .ret) .skip)))) (g' 16 [aB 5])))))) (q' 26 [am 1,aV 4] .ret))))
theorem b1A (a:List c9) (left:Int) (hpre:0≤left∧left≤1048576):Z9 Tryz.prog 63 [(false,[.sl false [.s [],.i .i64 0,.sl false [.sl false [.i .i64 0,.s []] []] []] (a.map (c9.cells false false))]),(false,[.i .i64 left])] [] (.one (false,[.i .i64 (szR left ((a.length+n0 v5 a):Nat))])):=by
 refine sx' false false none Tryz.func63 a8R [.t 4] [(144,[],a4G)] ?_
 intro hb hE
 simp only [go_sem];(repeat' first | apply CJ.mk | intro hc);all_goals try exact om'
 ·all_goals ((repeat (simp (disch:=omega) only [p6] at *))<;>(try simp only [szR,szR] at *)<;>(first | omega | (split<;>omega)))
 have hw:=p6 (l:=left) (n:=a.length) (by omega) (by omega) (by omega) (by omega)
 rw [hw] at hc
 refine lq' false [0] [] [] (fun i:{i:Nat // i≤a.length∧(a.length:Int)+(n0 v5 (a.take i):Nat)≤left}=>[(5,slV (.i .i64 i.1)),(1,slV (.i .i64 (left - a.length - (n0 v5 (a.take i.1):Nat))))]) nl' nl' (fun i=>a.length - i.1) (⟨0,by simp only [List.take_zero,a0l];omega⟩) ?_
 intro S0 hS0 i
 obtain ⟨i,hi,ht⟩:=i
 simp only [go_sem,hw,hS0];(repeat' first | apply CJ.mk | intro hc);all_goals try exact om'
 ·have h1:=i7 v5 (default:c9) (show i < a.length by omega)
  have h2:=s7 v5 a (i+1)
  all_goals ((repeat (simp (disch:=omega) only [p6] at *))<;>(try simp only [szR,szR] at *)<;>(first | omega | (split<;>omega)))
 ·have h1:=i7 v5 (default:c9) (show i < a.length by omega)
  (refine lpK_n2 (⟨i+1,by omega,by unfold szR at hc;split at hc<;>omega⟩) _ rfl ?_;simp only [go_sem,hw,hS0];first | done | ((repeat' apply And.intro)<;>try exact on'))
  rw [h1]
  unfold szR at hc ⊢
  split at hc<;>omega
 ·have h1:=a0Q v5 (show ¬ i < a.length by omega)
  all_goals ((repeat (simp (disch:=omega) only [p6] at *))<;>(try simp only [szR,szR] at *)<;>(first | omega | (split<;>omega)))
 all_goals all_goals ((repeat (simp (disch:=omega) only [p6] at *))<;>(try simp only [szR,szR] at *)<;>(first | omega | (split<;>omega)))
noncomputable def a3L:CT:=l5 (fun (x:(List c9)×Int) h=>b1A x.1 x.2 h)
@[go_sem] def c1L:=fun a x0=>nm' (fP' a3L rfl (a,x0))
@[go_sem] def b0P:ACode:=q' 2 [ao (.box 1 (.t 0)),az 4 0] (q' 5 [aG 0 2,am 1,ac 63 [6,7],aV 1] (.seq (q' 9 [am 1,ao (.bin .lss (.t 9) (k' 0))] (.cond (.t 10) (q' 4 [ao (.mov (.k (.v
 false [.c (.i .i64 (-1))])))] .ret) .skip)) (q' 11 [am 1,aV 4] .ret)))
theorem b4e (a:d8) (left:Int) (hpre:0≤left∧left≤1048576):Z9 Tryz.prog 14 [(true,[.sl false [.s [],.i .i64 0,.sl false [.sl false [.i .i64 0,.s []] []] []] (a.Rels.map (c9.cells false false))]),(false,[.i .i64 left])] [] (.one (false,[.i .i64 (szR left (a8z a:Nat))])):=by
 refine sx' false false none Tryz.func14 b0P [.t 4] [(63,[],a3L)] ?_
 intro hb hE
 simp only [go_sem];(repeat' first | apply CJ.mk | intro hc);all_goals try exact om'
 all_goals ((repeat (simp (disch:=omega) only [p6] at *))<;>(try simp only [szR,a8z] at *)<;>(first | omega | (split<;>omega)))
noncomputable def a4J:CT:=l5 (fun (x:d8×Int) h=>b4e x.1 x.2 h)
@[go_sem] def c3h:=fun x0 x1=>nm' (fP' a4J rfl (⟨x0⟩,x1))
@[go_sem] def b2A:ACode:=q' 2 [ao (.box 4 (.t 0)),az 4 0] (q' 5 [am 1,aG 0 2,ao (.lens (.t 7)),ao (.bin .sub (.t 5) (.t 8)),aV 1] (.seq (q' 10 [am 1,ao (.bin .lss (.t 10) (k' 0))]
 (.cond (.t 11) (q' 4 [ao (.mov (.k (.v false [.c (.i .i64 (-1))])))] .ret) .skip)) (q' 12 [af 1 2,aE 1,am 1,ac 101 [13,14],aV 1] (.seq (q' 16 [am 1,ao (.bin
 .lss (.t 16) (k' 0))] (.cond (.t 17) (q' 4 [ao (.mov (.k (.v false [.c (.i .i64 (-1))])))] .ret) .skip)) (q' 18 [af 3 2,aE 1,am 1,ac 102 [19,20],aV 1] (.seq
 (q' 22 [am 1,ao (.bin .lss (.t 22) (k' 0))] (.cond (.t 23) (q' 4 [ao (.mov (.k (.v false [.c (.i .i64 (-1))])))] .ret) .skip)) (q' 24 [am 1,aV 4] .ret)))))))
theorem b6g (a:d9) (left:Int) (hpre:0≤left∧left≤1048576):Z9 Tryz.prog 35 [(true,[.s a.Name,.sl false [.i .i64 0,.s []] (a.Row.V.map c7.cells),.i .i64 a.Rule,.sl false [.s [],.i .i64 0,.s []] (a.Env.Binds.map d4.cells)]),(false,[.i .i64 left])] [] (.one (false,[.i .i64 (szR left (a0d a:Nat))])):=by
 refine sx' false false none Tryz.func35 b2A [.t 4] [(102,[],a7F),(101,[],a3o)] ?_
 intro hb hE
 simp only [go_sem];(repeat' first | apply CJ.mk | intro hc);all_goals try exact om'
 all_goals ((repeat (simp (disch:=omega) only [p6] at *))<;>(try simp only [szR,a0d] at *)<;>(first | omega | (split<;>omega)))
noncomputable def a5U:CT:=l5 (fun (x:d9×Int) h=>b6g x.1 x.2 h)
@[go_sem] def c4Y:=fun x0 x1 x2 x3 x4=>nm' (fP' a5U rfl (⟨x0,⟨x1⟩,x2,⟨x3⟩⟩,x4))
@[go_sem] def b0O:ACode:=q' 4 [aK 0] (q' 6 [aM [1,0],aN,ao (.bin .sub (.t 6) (.t 8)),aV 1] (.seq (q' 10 [am 1,ao (.bin .lss (.t 10) (k' 0))] (.cond (.t 11) (q' 4 [ao (.mov (.k (.v false
 [.c (.i .i64 (-1))])))] .ret) .skip)) (.seq (q' 5 [aK 0] (.block 0 (.loop (.seq (q' 12 [aM [5,0],aN,ar 12 14] (.cond (.t 15) .skip (.exit 0))) (.seq (.block 1
 (q' 18 [aM [0,5],aI 4,aE 4,am 1,ac 35 [21,22],aV 1] (q' 24 [am 1,ao (.bin .lss (.t 24) (k' 0))] (.cond (.t 25) (q' 4 [ao (.mov (.k (.v false [.c (.i .i64
 (-1))])))] .ret) .skip)))) (g' 16 [aB 5])))))) (q' 26 [am 1,aV 4] .ret))))
theorem b4d (a:List d9) (left:Int) (hpre:0≤left∧left≤1048576):Z9 Tryz.prog 34 [(false,[.sl false [.s [],.sl false [.i .i64 0,.s []] [],.i .i64 0,.sl false [.s [],.i .i64 0,.s []] []] (a.map (d9.cells false false))]),(false,[.i .i64 left])] [] (.one (false,[.i .i64 (szR left ((a.length+n0 a0d a):Nat))])):=by
 refine sx' false false none Tryz.func34 b0O [.t 4] [(35,[],a5U)] ?_
 intro hb hE
 simp only [go_sem];(repeat' first | apply CJ.mk | intro hc);all_goals try exact om'
 ·all_goals ((repeat (simp (disch:=omega) only [p6] at *))<;>(try simp only [szR,szR] at *)<;>(first | omega | (split<;>omega)))
 have hw:=p6 (l:=left) (n:=a.length) (by omega) (by omega) (by omega) (by omega)
 rw [hw] at hc
 refine lq' false [0] [] [] (fun i:{i:Nat // i≤a.length∧(a.length:Int)+(n0 a0d (a.take i):Nat)≤left}=>[(5,slV (.i .i64 i.1)),(1,slV (.i .i64 (left - a.length - (n0 a0d (a.take i.1):Nat))))]) nl' nl' (fun i=>a.length - i.1) (⟨0,by simp only [List.take_zero,a0l];omega⟩) ?_
 intro S0 hS0 i
 obtain ⟨i,hi,ht⟩:=i
 simp only [go_sem,hw,hS0];(repeat' first | apply CJ.mk | intro hc);all_goals try exact om'
 ·have h1:=i7 a0d (default:d9) (show i < a.length by omega)
  have h2:=s7 a0d a (i+1)
  all_goals ((repeat (simp (disch:=omega) only [p6] at *))<;>(try simp only [szR,szR] at *)<;>(first | omega | (split<;>omega)))
 ·have h1:=i7 a0d (default:d9) (show i < a.length by omega)
  (refine lpK_n2 (⟨i+1,by omega,by unfold szR at hc;split at hc<;>omega⟩) _ rfl ?_;simp only [go_sem,hw,hS0];first | done | ((repeat' apply And.intro)<;>try exact on'))
  rw [h1]
  unfold szR at hc ⊢
  split at hc<;>omega
 ·have h1:=a0Q a0d (show ¬ i < a.length by omega)
  all_goals ((repeat (simp (disch:=omega) only [p6] at *))<;>(try simp only [szR,szR] at *)<;>(first | omega | (split<;>omega)))
 all_goals all_goals ((repeat (simp (disch:=omega) only [p6] at *))<;>(try simp only [szR,szR] at *)<;>(first | omega | (split<;>omega)))
noncomputable def a4I:CT:=l5 (fun (x:(List d9)×Int) h=>b4d x.1 x.2 h)
@[go_sem] def c3g:=fun a x0=>nm' (fP' a4I rfl (a,x0))
@[go_sem] def a8U:ACode:=q' 2 [ao (.mov (.k (.v false [.nl [.i .i64 0,.s []]])))] (q' 5 [am 0,aN,ao (.mks 2 24 [.i .i64,.s] (.t 6) (.t 6)),aV 3] (.seq (q' 4 [aK 0] (.block 0 (.loop
 (.seq (q' 8 [aM [4,0],aN,ar 8 10] (.cond (.t 11) .skip (.exit 0))) (.seq (.block 1 (g' 14 [aM [3,4,0,4],aI 2,aE 2,ac 324 [19],ai 2 14 15,aS 2 21 20])) (g' 12
 [aB 4])))))) (q' 22 [am 3,aV 2] .ret)))
theorem b1D (a:List c7) (hpre:(((a.length+n0 w5 a):Nat):Int)≤1048576):Z9 Tryz.prog 218 [(false,[.sl false [.i .i64 0,.s []] (a.map c7.cells)])] [] (.one (false,[.sl true [.i .i64 0,.s []] (a.map c7.cells)])):=by
 refine sx' true false none Tryz.func218 a8U [.t 2] [(324,[],a0D)] ?_
 intro hb hE
 simp only [go_sem,a6o];(repeat' first | apply CJ.mk | intro hc);all_goals try exact om'
 refine lq' true [0,3] [] [] (fun i:{p:Nat×(List c7) // p.1≤a.length∧p.2.length=a.length∧p.2.take p.1=a.take p.1}=>[(4,slV (.i .i64 i.1.1))]) nl' (fun i=>[(896,[.i .i64 0,.s []],i.1.2.map c7.cells)]) (fun i=>a.length - i.1.1) (⟨(0,List.replicate a.length default),by simp⟩) ?_
 intro S0 hS0 i
 obtain ⟨⟨i,L⟩,hi,hl,ht⟩:=i
 simp only at hi hl ht
 simp only [go_sem,a6o,hS0];(repeat' first | apply CJ.mk | intro hc);all_goals try exact om'
 ·(refine lpK_n2 (⟨(i+1,L.set i (a.getD i default)),by simp only;omega,by simp [hl],s6 hl ht (by omega)⟩) _ rfl ?_;simp only [go_sem,a6o,hS0];first | done | ((repeat' apply And.intro)<;>try exact on'))
 ·obtain rfl:=j7 hl ht (by omega)
  rfl
noncomputable def a3O:CT:=l5 (fun (x:(List c7)) h=>b1D x h)
@[go_sem] def c1O:=fun a=>nm' (fP' a3O rfl a)
@[go_sem] def b5u:ACode:=q' 1 [ao (.box 1 (.t 0)),aw [.sl [.i .i64 0,.s []]]] (q' 3 [aw [.sl [.i .i64 0,.s []]]] (q' 4 [aG 0 1,ac 218 [5],af 0 3,aS 1 7 6] (q' 8 [ae 1 3,aS 1 2 8]
 .ret)))
theorem b8t (a:d6) (hpre:(a0s a:Int)≤1048576):Z9 Tryz.prog 107 [(true,[.sl false [.i .i64 0,.s []] (a.V.map c7.cells)])] [] (.one (true,[.sl true [.i .i64 0,.s []] (a.V.map c7.cells)])):=by
 refine sx' true false none Tryz.func107 b5u [.c 2 true 1] [(218,[],a3O)] ?_
 intro hb hE
 simp only [go_sem];(repeat' first | apply CJ.mk | intro hc);all_goals try exact om'
 all_goals (simp only [a0s] at *;omega)
noncomputable def a3p:CT:=l5 (fun (x:d6) h=>b8t x h)
@[go_sem] def c6z:=fun x0=>nm' (fP' a3p rfl ⟨x0⟩)
@[go_sem] def b2G:ACode:=q' 2 [ao (.mov (.k (.v false [.nl [.sl false [.i .i64 0,.s []] []]])))] (q' 5 [am 0,aN,ao (.mks 1 24 [.sl [.i .i64 0,.s []]] (.t 6) (.t 6)),aV 3] (.seq (q' 4
 [aK 0] (.block 0 (.loop (.seq (q' 8 [aM [4,0],aN,ar 8 10] (.cond (.t 11) .skip (.exit 0))) (.seq (.block 1 (g' 14 [aM [3,4,0,4],aI 1,aE 1,ac 107 [19],ai 1 14
 15,aS 1 21 20])) (g' 12 [aB 4])))))) (q' 22 [am 3,aV 2] .ret)))
theorem b6m (a:List d6) (hpre:(((a.length+n0 a0s a):Nat):Int)≤1048576):Z9 Tryz.prog 349 [(false,[.sl false [.sl false [.i .i64 0,.s []] []] (a.map (d6.cells false false))])] [] (.one (false,[.sl true [.sl true [.i .i64 0,.s []] []] (a.map (d6.cells true true))])):=by
 refine sx' true false none Tryz.func349 b2G [.t 2] [(107,[],a3p)] ?_
 intro hb hE
 simp only [go_sem,b1X];(repeat' first | apply CJ.mk | intro hc);all_goals try exact om'
 refine lq' true [0,3] [] [] (fun i:{p:Nat×(List d6) // p.1≤a.length∧p.2.length=a.length∧p.2.take p.1=a.take p.1}=>[(4,slV (.i .i64 i.1.1))]) nl' (fun i=>[(896,[.sl true [.i .i64 0,.s []] []],i.1.2.map (d6.cells true true))]) (fun i=>a.length - i.1.1) (⟨(0,List.replicate a.length default),by simp⟩) ?_
 intro S0 hS0 i
 obtain ⟨⟨i,L⟩,hi,hl,ht⟩:=i
 simp only at hi hl ht
 have hg:=a3f a0s a i default rfl
 simp only [go_sem,b1X,hS0];(repeat' first | apply CJ.mk | intro hc);all_goals try exact om'
 ·(refine lpK_n2 (⟨(i+1,L.set i (a.getD i default)),by simp only;omega,by simp [hl],s6 hl ht (by omega)⟩) _ rfl ?_;simp only [go_sem,b1X,hS0];first | done | ((repeat' apply And.intro)<;>try exact on'))
 ·obtain rfl:=j7 hl ht (by omega)
  rfl
noncomputable def a5Y:CT:=l5 (fun (x:(List d6)) h=>b6m x h)
@[go_sem] def c5e:=fun a=>nm' (fP' a5Y rfl a)
@[go_sem] def b5t:ACode:=q' 1 [ao (.box 2 (.t 0)),aw [.i .i64,.sl [.sl false [.i .i64 0,.s []] []]]] (q' 3 [aw [.i .i64,.sl [.sl false [.i .i64 0,.s []] []]]] (q' 4 [aG 0 1,af 0
 3,aS 1 6 5] (q' 7 [aG 1 1,ac 349 [8],af 1 3,aS 1 10 9] (q' 11 [ae 2 3,aS 2 2 11] .ret))))
theorem b8s (a:f8) (hpre:(b4S a:Int)≤1048576):Z9 Tryz.prog 264 [(true,[.i .i64 a.Arity,.sl false [.sl false [.i .i64 0,.s []] []] (a.Rows.map (d6.cells false false))])] [] (.one (true,[.i .i64 a.Arity,.sl true [.sl true [.i .i64 0,.s []] []] (a.Rows.map (d6.cells true true))])):=by
 refine sx' true false none Tryz.func264 b5t [.c 2 true 2] [(349,[],a5Y)] ?_
 intro hb hE
 simp only [go_sem];(repeat' first | apply CJ.mk | intro hc);all_goals try exact om'
 all_goals (simp only [b4S] at *;omega)
noncomputable def a7K:CT:=l5 (fun (x:f8) h=>b8s x h)
@[go_sem] def c6y:=fun x0 x1=>nm' (fP' a7K rfl ⟨x0,x1⟩)
@[go_sem] def b0U:ACode:=q' 1 [ao (.box 3 (.t 0)),aw [.s,.i .i64,.sl [.sl false [.i .i64 0,.s []] []]]] (q' 3 [aw [.s,.i .i64,.sl [.sl false [.i .i64 0,.s []] []]]] (q' 4 [aG 0
 1,af 0 3,aS 1 6 5] (q' 7 [af 1 1,aE 2,ac 264 [8],af 1 3,aS 2 10 9] (q' 11 [ae 3 3,aS 3 2 11] .ret))))
theorem b4j (a:c9) (hpre:(v5 a:Int)≤1048576):Z9 Tryz.prog 149 [(true,[.s a.Name,.i .i64 a.Rel.Arity,.sl false [.sl false [.i .i64 0,.s []] []] (a.Rel.Rows.map (d6.cells false false))])] [] (.one (true,[.s a.Name,.i .i64 a.Rel.Arity,.sl true [.sl true [.i .i64 0,.s []] []] (a.Rel.Rows.map (d6.cells true true))])):=by
 refine sx' true false none Tryz.func149 b0U [.c 2 true 3] [(264,[],a7K)] ?_
 intro hb hE
 simp only [go_sem];(repeat' first | apply CJ.mk | intro hc);all_goals try exact om'
 all_goals (simp only [v5] at *;omega)
noncomputable def a4N:CT:=l5 (fun (x:c9) h=>b4j x h)
@[go_sem] def c3m:=fun x0 x1 x2=>nm' (fP' a4N rfl ⟨x0,⟨x1,x2⟩⟩)
@[go_sem] def a8T:ACode:=q' 2 [ao (.mov (.k (.v false [.nl [.s [],.i .i64 0,.sl false [.sl false [.i .i64 0,.s []] []] []]])))] (q' 5 [am 0,aN,ao (.mks 3 48 [.s,.i .i64,.sl [.sl
 false [.i .i64 0,.s []] []]] (.t 6) (.t 6)),aV 3] (.seq (q' 4 [aK 0] (.block 0 (.loop (.seq (q' 8 [aM [4,0],aN,ar 8 10] (.cond (.t 11) .skip (.exit 0)))
 (.seq (.block 1 (g' 14 [aM [3,4,0,4],aI 3,aE 3,ac 149 [19],ai 3 14 15,aS 3 21 20])) (g' 12 [aB 4])))))) (q' 22 [am 3,aV 2] .ret)))
theorem b1C (a:List c9) (hpre:(((a.length+n0 v5 a):Nat):Int)≤1048576):Z9 Tryz.prog 67 [(false,[.sl false [.s [],.i .i64 0,.sl false [.sl false [.i .i64 0,.s []] []] []] (a.map (c9.cells false false))])] [] (.one (false,[.sl true [.s [],.i .i64 0,.sl true [.sl true [.i .i64 0,.s []] []] []] (a.map (c9.cells true true))])):=by
 refine sx' true false none Tryz.func67 a8T [.t 2] [(149,[],a4N)] ?_
 intro hb hE
 simp only [go_sem,a6m];(repeat' first | apply CJ.mk | intro hc);all_goals try exact om'
 refine lq' true [0,3] [] [] (fun i:{p:Nat×(List c9) // p.1≤a.length∧p.2.length=a.length∧p.2.take p.1=a.take p.1}=>[(4,slV (.i .i64 i.1.1))]) nl' (fun i=>[(896,[.s [],.i .i64 0,.sl true [.sl true [.i .i64 0,.s []] []] []],i.1.2.map (c9.cells true true))]) (fun i=>a.length - i.1.1) (⟨(0,List.replicate a.length default),by simp⟩) ?_
 intro S0 hS0 i
 obtain ⟨⟨i,L⟩,hi,hl,ht⟩:=i
 simp only at hi hl ht
 have hg:=a3f v5 a i default rfl
 simp only [go_sem,a6m,hS0];(repeat' first | apply CJ.mk | intro hc);all_goals try exact om'
 ·(refine lpK_n2 (⟨(i+1,L.set i (a.getD i default)),by simp only;omega,by simp [hl],s6 hl ht (by omega)⟩) _ rfl ?_;simp only [go_sem,a6m,hS0];first | done | ((repeat' apply And.intro)<;>try exact on'))
 ·obtain rfl:=j7 hl ht (by omega)
  rfl
noncomputable def a3N:CT:=l5 (fun (x:(List c9)) h=>b1C x h)
@[go_sem] def c1N:=fun a=>nm' (fP' a3N rfl a)
@[go_sem] def b0X:ACode:=q' 1 [ao (.box 1 (.t 0)),aw [.sl [.s [],.i .i64 0,.sl false [.sl false [.i .i64 0,.s []] []] []]]] (q' 3 [aw [.sl [.s [],.i .i64 0,.sl false [.sl false [.i
 .i64 0,.s []] []] []]]] (q' 4 [aG 0 1,ac 67 [5],af 0 3,aS 1 7 6] (q' 8 [ae 1 3,aS 1 2 8] .ret)))
theorem b4m (a:d8) (hpre:(a8z a:Int)≤1048576):Z9 Tryz.prog 17 [(true,[.sl false [.s [],.i .i64 0,.sl false [.sl false [.i .i64 0,.s []] []] []] (a.Rels.map (c9.cells false false))])] [] (.one (true,[.sl true [.s [],.i .i64 0,.sl true [.sl true [.i .i64 0,.s []] []] []] (a.Rels.map (c9.cells true true))])):=by
 refine sx' true false none Tryz.func17 b0X [.c 2 true 1] [(67,[],a3N)] ?_
 intro hb hE
 simp only [go_sem];(repeat' first | apply CJ.mk | intro hc);all_goals try exact om'
 all_goals (simp only [a8z] at *;omega)
noncomputable def a4Q:CT:=l5 (fun (x:d8) h=>b4m x h)
@[go_sem] def c3p:=fun x0=>nm' (fP' a4Q rfl ⟨x0⟩)
@[go_sem] def b2I:ACode:=q' 1 [ao (.box 4 (.t 0)),aw [.s,.sl [.i .i64 0,.s []],.i .i64,.sl [.s [],.i .i64 0,.s []]]] (q' 3 [aw [.s,.sl [.i .i64 0,.s []],.i .i64,.sl [.s [],.i
 .i64 0,.s []]]] (q' 4 [aG 0 1,af 0 3,aS 1 6 5] (q' 7 [af 1 1,aE 1,ac 107 [8],af 1 3,aS 1 10 9] (q' 11 [aG 2 1,af 2 3,aS 1 13 12] (q' 14 [af 3 1,aE 1,ac 108
 [15],af 3 3,aS 1 17 16] (q' 18 [ae 4 3,aS 4 2 18] .ret))))))
theorem b6o (a:d9) (hpre:(a0d a:Int)≤1048576):Z9 Tryz.prog 39 [(true,[.s a.Name,.sl false [.i .i64 0,.s []] (a.Row.V.map c7.cells),.i .i64 a.Rule,.sl false [.s [],.i .i64 0,.s []] (a.Env.Binds.map d4.cells)])] [] (.one (true,[.s a.Name,.sl true [.i .i64 0,.s []] (a.Row.V.map c7.cells),.i .i64 a.Rule,.sl true [.s [],.i .i64 0,.s []] (a.Env.Binds.map d4.cells)])):=by
 refine sx' true false none Tryz.func39 b2I [.c 2 true 4] [(108,[],a7I),(107,[],a3p)] ?_
 intro hb hE
 simp only [go_sem];(repeat' first | apply CJ.mk | intro hc);all_goals try exact om'
 all_goals (simp only [a0d] at *;omega)
noncomputable def a6a:CT:=l5 (fun (x:d9) h=>b6o x h)
@[go_sem] def c5g:=fun x0 x1 x2 x3=>nm' (fP' a6a rfl ⟨x0,⟨x1⟩,x2,⟨x3⟩⟩)
@[go_sem] def b0W:ACode:=q' 2 [ao (.mov (.k (.v false [.nl [.s [],.sl false [.i .i64 0,.s []] [],.i .i64 0,.sl false [.s [],.i .i64 0,.s []] []]])))] (q' 5 [am 0,aN,ao (.mks 4 72
 [.s,.sl [.i .i64 0,.s []],.i .i64,.sl [.s [],.i .i64 0,.s []]] (.t 6) (.t 6)),aV 3] (.seq (q' 4 [aK 0] (.block 0 (.loop (.seq (q' 8 [aM [4,0],aN,ar 8
 10] (.cond (.t 11) .skip (.exit 0))) (.seq (.block 1 (g' 14 [aM [3,4,0,4],aI 4,aE 4,ac 39 [19],ai 4 14 15,aS 4 21 20])) (g' 12 [aB 4])))))) (q' 22 [am 3,aV 2]
 .ret)))
theorem b4l (a:List d9) (hpre:(((a.length+n0 a0d a):Nat):Int)≤1048576):Z9 Tryz.prog 38 [(false,[.sl false [.s [],.sl false [.i .i64 0,.s []] [],.i .i64 0,.sl false [.s [],.i .i64 0,.s []] []] (a.map (d9.cells false false))])] [] (.one (false,[.sl true [.s [],.sl true [.i .i64 0,.s []] [],.i .i64 0,.sl true [.s [],.i .i64 0,.s []] []] (a.map (d9.cells true true))])):=by
 refine sx' true false none Tryz.func38 b0W [.t 2] [(39,[],a6a)] ?_
 intro hb hE
 simp only [go_sem,a8E];(repeat' first | apply CJ.mk | intro hc);all_goals try exact om'
 refine lq' true [0,3] [] [] (fun i:{p:Nat×(List d9) // p.1≤a.length∧p.2.length=a.length∧p.2.take p.1=a.take p.1}=>[(4,slV (.i .i64 i.1.1))]) nl' (fun i=>[(896,[.s [],.sl true [.i .i64 0,.s []] [],.i .i64 0,.sl true [.s [],.i .i64 0,.s []] []],i.1.2.map (d9.cells true true))]) (fun i=>a.length - i.1.1) (⟨(0,List.replicate a.length default),by simp⟩) ?_
 intro S0 hS0 i
 obtain ⟨⟨i,L⟩,hi,hl,ht⟩:=i
 simp only at hi hl ht
 have hg:=a3f a0d a i default rfl
 simp only [go_sem,a8E,hS0];(repeat' first | apply CJ.mk | intro hc);all_goals try exact om'
 ·(refine lpK_n2 (⟨(i+1,L.set i (a.getD i default)),by simp only;omega,by simp [hl],s6 hl ht (by omega)⟩) _ rfl ?_;simp only [go_sem,a8E,hS0];first | done | ((repeat' apply And.intro)<;>try exact on'))
 ·obtain rfl:=j7 hl ht (by omega)
  rfl
noncomputable def a4P:CT:=l5 (fun (x:(List d9)) h=>b4l x h)
@[go_sem] def c3o:=fun a=>nm' (fP' a4P rfl a)
@[go_sem] def b2q:ACode:=q' 0 [ab 4 false] (.seq (q' 6 [am 0,aN,am 1,aN,ao (.bin .neq (.t 7) (.t 9))] (.cond (.t 10) (q' 0 [ab 4 false] .ret) .skip)) (.seq (q' 5 [aK 0] (.block 0 (.loop
 (.seq (q' 11 [aM [5,0],aN,ar 11 13] (.cond (.t 14) .skip (.exit 0))) (.seq (.block 1 (.seq (G' 17 [aM [0,5],aI 1,aE 1,aM [1,5],aI 1,aE 1,ac 113 [20,24],ao
 (.not (.t 25))]) (.cond (.t 26) (q' 0 [ab 4 false] .ret) .skip))) (g' 15 [aB 5])))))) (q' 0 [ab 4 true] .ret)))
theorem b5W (a:List d6) (b:List d6):Z9 Tryz.prog 72 [(false,[.sl false [.sl false [.i .i64 0,.s []] []] (a.map (d6.cells false false))]),(false,[.sl false [.sl false [.i .i64 0,.s []] []] (b.map (d6.cells false false))])] [] (.one (false,[.b (decide (a=b))])):=by
 refine sx' false false none Tryz.func72 b2q [.t 4] [(113,[],a3n)] ?_
 intro hb hE
 simp only [go_sem];(repeat' first | apply CJ.mk | intro hc);all_goals try exact om'
 ·symm
  rw [decide_eq_false_iff_not]
  rintro rfl
  simp at hc
 have hl:a.length=b.length:=by simpa [Int.ofNat_inj] using hc
 refine lq' false [0,1] [] [] (fun i:{i:Nat // i≤a.length∧a.take i=b.take i}=>[(5,slV (.i .i64 i.1))]) nl' nl' (fun i=>a.length - i.1) (⟨0,by simp⟩) ?_
 intro S0 hS0 i
 obtain ⟨i,hi,ht⟩:=i
 simp only [go_sem,hS0];(repeat' first | apply CJ.mk | intro hc);all_goals try exact om'
 ·exact (decide_eq_false (u1 default (i:=i) (by simpa using hc))).symm
 ·exact nx0 ⟨i+1,by omega,o8 ht (by omega) (by omega) (d:=default) (by simpa using hc)⟩
 ·exact (decide_eq_true (j7 hl ht (by omega))).symm
noncomputable def a5M:CT:=i3 (fun (x:(List d6)×(List d6))=>b5W x.1 x.2)
@[go_sem] def c4O:=fun a b=>nm' (fQ' a5M rfl (a,b))
@[go_sem] def b5l:ACode:=q' 2 [ao (.box 2 (.t 0)),ao (.box 2 (.t 1)),ao (.mov (bb false))] (.seq (q' 5 [aG 0 2,aG 0 3,ao (.bin .neq (.t 6) (.t 8))] (.cond (.t 9) (q' 0 [ab 4 false]
 .ret) .skip)) (.seq (q' 10 [aG 1 2,aG 1 3,ac 72 [11,13],ao (.not (.t 14))] (.cond (.t 15) (q' 0 [ab 4 false] .ret) .skip)) (q' 0 [ab 4 true] .ret)))
theorem b8k (a:f8) (b:f8):Z9 Tryz.prog 19 [(true,[.i .i64 a.Arity,.sl false [.sl false [.i .i64 0,.s []] []] (a.Rows.map (d6.cells false false))]),(true,[.i .i64 b.Arity,.sl false [.sl false [.i .i64 0,.s []] []] (b.Rows.map (d6.cells false false))])] [] (.one (false,[.b (decide (a=b))])):=by
 refine sx' false false none Tryz.func19 b5l [.t 4] [(72,[],a5M)] ?_
 intro hb hE
 simp only [go_sem];(repeat' first | apply CJ.mk | intro hc);all_goals try exact om'
 all_goals (cases a;cases b;simp_all)
noncomputable def a7E:CT:=i3 (fun (x:f8×f8)=>b8k x.1 x.2)
@[go_sem] def c6q:=fun x0 x1 x2 x3=>nm' (fQ' a7E rfl (⟨x0,x1⟩,⟨x2,x3⟩))
@[go_sem] def b0E:ACode:=q' 2 [ao (.box 3 (.t 0)),ao (.box 3 (.t 1)),ao (.mov (bb false))] (.seq (q' 5 [aG 0 2,aG 0 3,ao (.bin .neq (.t 6) (.t 8))] (.cond (.t 9) (q' 0 [ab 4 false]
 .ret) .skip)) (.seq (q' 10 [af 1 2,aE 2,af 1 3,aE 2,ac 19 [11,13],ao (.not (.t 14))] (.cond (.t 15) (q' 0 [ab 4 false] .ret) .skip)) (q' 0 [ab 4 true] .ret)))
theorem b3T (a:c9) (b:c9):Z9 Tryz.prog 163 [(true,[.s a.Name,.i .i64 a.Rel.Arity,.sl false [.sl false [.i .i64 0,.s []] []] (a.Rel.Rows.map (d6.cells false false))]),(true,[.s b.Name,.i .i64 b.Rel.Arity,.sl false [.sl false [.i .i64 0,.s []] []] (b.Rel.Rows.map (d6.cells false false))])] [] (.one (false,[.b (decide (a=b))])):=by
 refine sx' false false none Tryz.func163 b0E [.t 4] [(19,[],a7E)] ?_
 intro hb hE
 simp only [go_sem];(repeat' first | apply CJ.mk | intro hc);all_goals try exact om'
 all_goals (cases a;cases b;simp_all)
noncomputable def a4z:CT:=i3 (fun (x:c9×c9)=>b3T x.1 x.2)
@[go_sem] def c2W:=fun x0 x1 x2 x3 x4 x5=>nm' (fQ' a4z rfl (⟨x0,⟨x1,x2⟩⟩,⟨x3,⟨x4,x5⟩⟩))
@[go_sem] def a8P:ACode:=q' 0 [ab 4 false] (.seq (q' 6 [am 0,aN,am 1,aN,ao (.bin .neq (.t 7) (.t 9))] (.cond (.t 10) (q' 0 [ab 4 false] .ret) .skip)) (.seq (q' 5 [aK 0] (.block 0 (.loop
 (.seq (q' 11 [aM [5,0],aN,ar 11 13] (.cond (.t 14) .skip (.exit 0))) (.seq (.block 1 (.seq (G' 17 [aM [0,5],aI 3,aE 3,aM [1,5],aI 3,aE 3,ac 163 [20,24],ao
 (.not (.t 25))]) (.cond (.t 26) (q' 0 [ab 4 false] .ret) .skip))) (g' 15 [aB 5])))))) (q' 0 [ab 4 true] .ret)))
theorem b1y (a:List c9) (b:List c9):Z9 Tryz.prog 75 [(false,[.sl false [.s [],.i .i64 0,.sl false [.sl false [.i .i64 0,.s []] []] []] (a.map (c9.cells false false))]),(false,[.sl false [.s [],.i .i64 0,.sl false [.sl false [.i .i64 0,.s []] []] []] (b.map (c9.cells false false))])] [] (.one (false,[.b (decide (a=b))])):=by
 refine sx' false false none Tryz.func75 a8P [.t 4] [(163,[],a4z)] ?_
 intro hb hE
 simp only [go_sem];(repeat' first | apply CJ.mk | intro hc);all_goals try exact om'
 ·symm
  rw [decide_eq_false_iff_not]
  rintro rfl
  simp at hc
 have hl:a.length=b.length:=by simpa [Int.ofNat_inj] using hc
 refine lq' false [0,1] [] [] (fun i:{i:Nat // i≤a.length∧a.take i=b.take i}=>[(5,slV (.i .i64 i.1))]) nl' nl' (fun i=>a.length - i.1) (⟨0,by simp⟩) ?_
 intro S0 hS0 i
 obtain ⟨i,hi,ht⟩:=i
 simp only [go_sem,hS0];(repeat' first | apply CJ.mk | intro hc);all_goals try exact om'
 ·exact (decide_eq_false (u1 default (i:=i) (by simpa using hc))).symm
 ·exact nx0 ⟨i+1,by omega,o8 ht (by omega) (by omega) (d:=default) (by simpa using hc)⟩
 ·exact (decide_eq_true (j7 hl ht (by omega))).symm
noncomputable def a3J:CT:=i3 (fun (x:(List c9)×(List c9))=>b1y x.1 x.2)
@[go_sem] def c1J:=fun a b=>nm' (fQ' a3J rfl (a,b))
@[go_sem] def b0H:ACode:=q' 2 [ao (.box 1 (.t 0)),ao (.box 1 (.t 1)),ao (.mov (bb false))] (.seq (q' 5 [aG 0 2,aG 0 3,ac 75 [6,8],ao (.not (.t 9))] (.cond (.t 10) (q' 0 [ab 4 false]
 .ret) .skip)) (q' 0 [ab 4 true] .ret))
theorem b3W (a:d8) (b:d8):Z9 Tryz.prog 21 [(true,[.sl false [.s [],.i .i64 0,.sl false [.sl false [.i .i64 0,.s []] []] []] (a.Rels.map (c9.cells false false))]),(true,[.sl false [.s [],.i .i64 0,.sl false [.sl false [.i .i64 0,.s []] []] []] (b.Rels.map (c9.cells false false))])] [] (.one (false,[.b (decide (a=b))])):=by
 refine sx' false false none Tryz.func21 b0H [.t 4] [(75,[],a3J)] ?_
 intro hb hE
 simp only [go_sem];(repeat' first | apply CJ.mk | intro hc);all_goals try exact om'
 all_goals (cases a;cases b;simp_all)
noncomputable def a4C:CT:=i3 (fun (x:d8×d8)=>b3W x.1 x.2)
@[go_sem] def c2Z:=fun x0 x1=>nm' (fQ' a4C rfl (⟨x0⟩,⟨x1⟩))
@[go_sem] def b2s:ACode:=q' 2 [ao (.box 4 (.t 0)),ao (.box 4 (.t 1)),ao (.mov (bb false))] (.seq (q' 5 [aG 0 2,aG 0 3,ao (.bin .neq (.t 6) (.t 8))] (.cond (.t 9) (q' 0 [ab 4 false]
 .ret) .skip)) (.seq (q' 10 [af 1 2,aE 1,af 1 3,aE 1,ac 113 [11,13],ao (.not (.t 14))] (.cond (.t 15) (q' 0 [ab 4 false] .ret) .skip)) (.seq (q' 16 [aG 2 2,aG
 2 3,ao (.bin .neq (.t 17) (.t 19))] (.cond (.t 20) (q' 0 [ab 4 false] .ret) .skip)) (.seq (q' 21 [af 3 2,aE 1,af 3 3,aE 1,ac 114 [22,24],ao (.not (.t 25))]
 (.cond (.t 26) (q' 0 [ab 4 false] .ret) .skip)) (q' 0 [ab 4 true] .ret)))))
theorem b5Y (a:d9) (b:d9):Z9 Tryz.prog 43 [(true,[.s a.Name,.sl false [.i .i64 0,.s []] (a.Row.V.map c7.cells),.i .i64 a.Rule,.sl false [.s [],.i .i64 0,.s []] (a.Env.Binds.map d4.cells)]),(true,[.s b.Name,.sl false [.i .i64 0,.s []] (b.Row.V.map c7.cells),.i .i64 b.Rule,.sl false [.s [],.i .i64 0,.s []] (b.Env.Binds.map d4.cells)])] [] (.one (false,[.b (decide (a=b))])):=by
 refine sx' false false none Tryz.func43 b2s [.t 4] [(114,[],a7C),(113,[],a3n)] ?_
 intro hb hE
 simp only [go_sem];(repeat' first | apply CJ.mk | intro hc);all_goals try exact om'
 all_goals (cases a;cases b;simp_all)
noncomputable def a5O:CT:=i3 (fun (x:d9×d9)=>b5Y x.1 x.2)
@[go_sem] def c4Q:=fun x0 x1 x2 x3 x4 x5 x6 x7=>nm' (fQ' a5O rfl (⟨x0,⟨x1⟩,x2,⟨x3⟩⟩,⟨x4,⟨x5⟩,x6,⟨x7⟩⟩))
@[go_sem] def b0G:ACode:=q' 0 [ab 4 false] (.seq (q' 6 [am 0,aN,am 1,aN,ao (.bin .neq (.t 7) (.t 9))] (.cond (.t 10) (q' 0 [ab 4 false] .ret) .skip)) (.seq (q' 5 [aK 0] (.block 0 (.loop
 (.seq (q' 11 [aM [5,0],aN,ar 11 13] (.cond (.t 14) .skip (.exit 0))) (.seq (.block 1 (.seq (G' 17 [aM [0,5],aI 4,aE 4,aM [1,5],aI 4,aE 4,ac 43 [20,24],ao
 (.not (.t 25))]) (.cond (.t 26) (q' 0 [ab 4 false] .ret) .skip))) (g' 15 [aB 5])))))) (q' 0 [ab 4 true] .ret)))
theorem b3V (a:List d9) (b:List d9):Z9 Tryz.prog 42 [(false,[.sl false [.s [],.sl false [.i .i64 0,.s []] [],.i .i64 0,.sl false [.s [],.i .i64 0,.s []] []] (a.map (d9.cells false false))]),(false,[.sl false [.s [],.sl false [.i .i64 0,.s []] [],.i .i64 0,.sl false [.s [],.i .i64 0,.s []] []] (b.map (d9.cells false false))])] [] (.one (false,[.b (decide (a=b))])):=by
 refine sx' false false none Tryz.func42 b0G [.t 4] [(43,[],a5O)] ?_
 intro hb hE
 simp only [go_sem];(repeat' first | apply CJ.mk | intro hc);all_goals try exact om'
 ·symm
  rw [decide_eq_false_iff_not]
  rintro rfl
  simp at hc
 have hl:a.length=b.length:=by simpa [Int.ofNat_inj] using hc
 refine lq' false [0,1] [] [] (fun i:{i:Nat // i≤a.length∧a.take i=b.take i}=>[(5,slV (.i .i64 i.1))]) nl' nl' (fun i=>a.length - i.1) (⟨0,by simp⟩) ?_
 intro S0 hS0 i
 obtain ⟨i,hi,ht⟩:=i
 simp only [go_sem,hS0];(repeat' first | apply CJ.mk | intro hc);all_goals try exact om'
 ·exact (decide_eq_false (u1 default (i:=i) (by simpa using hc))).symm
 ·exact nx0 ⟨i+1,by omega,o8 ht (by omega) (by omega) (d:=default) (by simpa using hc)⟩
 ·exact (decide_eq_true (j7 hl ht (by omega))).symm
noncomputable def a4B:CT:=i3 (fun (x:(List d9)×(List d9))=>b3V x.1 x.2)
@[go_sem] def c2Y:=fun a b=>nm' (fQ' a4B rfl (a,b))
end Go.Aw
