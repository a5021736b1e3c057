/- Stores and steps: sizes, copies, equalities. No condition. -/
import Derived.Test.YtdfnhhecaaaoaaaGreatyaB0
import Derived.Test.YtdfnhhecaaaoaaaGreatyaB2
namespace Go.Aw
open Go.Proofs
attribute [local irreducible] aft blk lpK retK AW Z9
set_option linter.all false
set_option maxRecDepth 100000
def a0o (x:d7):Nat:=(x.V.length+n0 w4 x.V)
def b4M (x:f8):Nat:=(x.Rows.length+n0 a0o x.Rows)
def u9 (x:c9):Nat:=x.Name.length+b4M x.Rel
def a8u (x:d9):Nat:=(x.Rels.length+n0 u9 x.Rels)
def a0a (x:e7):Nat:=x.Name.length+a0o x.Row+b4L x.Env
@[go_sem] def a8N:ACode:=q' 4 [aK 0] (q' 6 [aM [1,0],aN,ao (.bin .sub (.t 6) (.t 8)),aV 1] (.seq (q' 10 [am 1,ao (.bin .lss (.t 10) (k' 0))] (.cond (.t 11) (q' 4 [ao (.mov (.k (.v false
 [.c (.i .i64 (-1))])))] .ret) .skip)) (.seq (q' 5 [aK 0] (.block 0 (.loop (.seq (q' 12 [aM [5,0],aN,ar 12 14] (.cond (.t 15) .skip (.exit 0))) (.seq (.block 1
 (q' 18 [aM [0,5],aI 2,aE 2,am 1,ac 319 [21,22],aV 1] (q' 24 [am 1,ao (.bin .lss (.t 24) (k' 0))] (.cond (.t 25) (q' 4 [ao (.mov (.k (.v false [.c (.i .i64
 (-1))])))] .ret) .skip)))) (g' 16 [aB 5])))))) (q' 26 [am 1,aV 4] .ret))))
theorem b1u (a:List c7) (left:Int) (hpre:0≤left∧left≤1048576):Z9 Tryz.prog 205 [(false,[.sl false [.i .i64 0,.s []] (a.map c7.cells)]),(false,[.i .i64 left])] [] (.one (false,[.i .i64 (szR left ((a.length+n0 w4 a):Nat))])):=by
 refine sx' false false none Tryz.func205 a8N [.t 4] [(319,[],a0A)] ?_
 intro hb hE
 simp only [go_sem];(repeat' first | apply CJ.mk | intro hc);all_goals try exact om'
 ·all_goals ((repeat (simp (disch:=omega) only [p6] at *))<;>(try simp only [szR,szR] at *)<;>(first | omega | (split<;>omega)))
 have hw:=p6 (l:=left) (n:=a.length) (by omega) (by omega) (by omega) (by omega)
 rw [hw] at hc
 refine lq' false [0] [] [] (fun i:{i:Nat // i≤a.length∧(a.length:Int)+(n0 w4 (a.take i):Nat)≤left}=>[(5,slV (.i .i64 i.1)),(1,slV (.i .i64 (left - a.length - (n0 w4 (a.take i.1):Nat))))]) nl' nl' (fun i=>a.length - i.1) (⟨0,by simp only [List.take_zero,a0h];omega⟩) ?_
 intro S0 hS0 i
 obtain ⟨i,hi,ht⟩:=i
 simp only [go_sem,hw,hS0];(repeat' first | apply CJ.mk | intro hc);all_goals try exact om'
 ·have h1:=i7 w4 (default:c7) (show i < a.length by omega)
  have h2:=s7 w4 a (i+1)
  all_goals ((repeat (simp (disch:=omega) only [p6] at *))<;>(try simp only [szR,szR] at *)<;>(first | omega | (split<;>omega)))
 ·have h1:=i7 w4 (default:c7) (show i < a.length by omega)
  (refine lpK_n2 (⟨i+1,by omega,by unfold szR at hc;split at hc<;>omega⟩) _ rfl ?_;simp only [go_sem,hw,hS0];first | done | ((repeat' apply And.intro)<;>try exact on'))
  rw [h1]
  unfold szR at hc ⊢
  split at hc<;>omega
 ·have h1:=a0P w4 (show ¬ i < a.length by omega)
  all_goals ((repeat (simp (disch:=omega) only [p6] at *))<;>(try simp only [szR,szR] at *)<;>(first | omega | (split<;>omega)))
 all_goals all_goals ((repeat (simp (disch:=omega) only [p6] at *))<;>(try simp only [szR,szR] at *)<;>(first | omega | (split<;>omega)))
noncomputable def a3K:CT:=l5 (fun (x:(List c7)×Int) h=>b1u x.1 x.2 h)
@[go_sem] def c1F:=fun a x0=>nm' (fP' a3K rfl (a,x0))
@[go_sem] def b5k:ACode:=q' 2 [ao (.box 1 (.t 0)),az 4 0] (q' 5 [aG 0 2,am 1,ac 205 [6,7],aV 1] (.seq (q' 9 [am 1,ao (.bin .lss (.t 9) (k' 0))] (.cond (.t 10) (q' 4 [ao (.mov (.k (.v
 false [.c (.i .i64 (-1))])))] .ret) .skip)) (q' 11 [am 1,aV 4] .ret)))
theorem b8l (a:d7) (left:Int) (hpre:0≤left∧left≤1048576):Z9 Tryz.prog 101 [(true,[.sl false [.i .i64 0,.s []] (a.V.map c7.cells)]),(false,[.i .i64 left])] [] (.one (false,[.i .i64 (szR left (a0o a:Nat))])):=by
 refine sx' false false none Tryz.func101 b5k [.t 4] [(205,[],a3K)] ?_
 intro hb hE
 simp only [go_sem];(repeat' first | apply CJ.mk | intro hc);all_goals try exact om'
 all_goals ((repeat (simp (disch:=omega) only [p6] at *))<;>(try simp only [szR,a0o] at *)<;>(first | omega | (split<;>omega)))
noncomputable def a3n:CT:=l5 (fun (x:d7×Int) h=>b8l x.1 x.2 h)
@[go_sem] def c6q:=fun x0 x1=>nm' (fP' a3n rfl (⟨x0⟩,x1))
@[go_sem] def b2r:ACode:=q' 4 [aK 0] (q' 6 [aM [1,0],aN,ao (.bin .sub (.t 6) (.t 8)),aV 1] (.seq (q' 10 [am 1,ao (.bin .lss (.t 10) (k' 0))] (.cond (.t 11) (q' 4 [ao (.mov (.k (.v false
 [.c (.i .i64 (-1))])))] .ret) .skip)) (.seq (q' 5 [aK 0] (.block 0 (.loop (.seq (q' 12 [aM [5,0],aN,ar 12 14] (.cond (.t 15) .skip (.exit 0))) (.seq (.block 1
 (q' 18 [aM [0,5],aI 1,aE 1,am 1,ac 101 [21,22],aV 1] (q' 24 [am 1,ao (.bin .lss (.t 24) (k' 0))] (.cond (.t 25) (q' 4 [ao (.mov (.k (.v false [.c (.i .i64
 (-1))])))] .ret) .skip)))) (g' 16 [aB 5])))))) (q' 26 [am 1,aV 4] .ret))))
theorem b5Z (a:List d7) (left:Int) (hpre:0≤left∧left≤1048576):Z9 Tryz.prog 347 [(false,[.sl false [.sl false [.i .i64 0,.s []] []] (a.map (d7.cells false false))]),(false,[.i .i64 left])] [] (.one (false,[.i .i64 (szR left ((a.length+n0 a0o a):Nat))])):=by
 refine sx' false false none Tryz.func347 b2r [.t 4] [(101,[],a3n)] ?_
 intro hb hE
 simp only [go_sem];(repeat' first | apply CJ.mk | intro hc);all_goals try exact om'
 ·all_goals ((repeat (simp (disch:=omega) only [p6] at *))<;>(try simp only [szR,szR] at *)<;>(first | omega | (split<;>omega)))
 have hw:=p6 (l:=left) (n:=a.length) (by omega) (by omega) (by omega) (by omega)
 rw [hw] at hc
 refine lq' false [0] [] [] (fun i:{i:Nat // i≤a.length∧(a.length:Int)+(n0 a0o (a.take i):Nat)≤left}=>[(5,slV (.i .i64 i.1)),(1,slV (.i .i64 (left - a.length - (n0 a0o (a.take i.1):Nat))))]) nl' nl' (fun i=>a.length - i.1) (⟨0,by simp only [List.take_zero,a0h];omega⟩) ?_
 intro S0 hS0 i
 obtain ⟨i,hi,ht⟩:=i
 simp only [go_sem,hw,hS0];(repeat' first | apply CJ.mk | intro hc);all_goals try exact om'
 ·have h1:=i7 a0o (default:d7) (show i < a.length by omega)
  have h2:=s7 a0o a (i+1)
  all_goals ((repeat (simp (disch:=omega) only [p6] at *))<;>(try simp only [szR,szR] at *)<;>(first | omega | (split<;>omega)))
 ·have h1:=i7 a0o (default:d7) (show i < a.length by omega)
  (refine lpK_n2 (⟨i+1,by omega,by unfold szR at hc;split at hc<;>omega⟩) _ rfl ?_;simp only [go_sem,hw,hS0];first | done | ((repeat' apply And.intro)<;>try exact on'))
  rw [h1]
  unfold szR at hc ⊢
  split at hc<;>omega
 ·have h1:=a0P a0o (show ¬ i < a.length by omega)
  all_goals ((repeat (simp (disch:=omega) only [p6] at *))<;>(try simp only [szR,szR] at *)<;>(first | omega | (split<;>omega)))
 all_goals all_goals ((repeat (simp (disch:=omega) only [p6] at *))<;>(try simp only [szR,szR] at *)<;>(first | omega | (split<;>omega)))
noncomputable def a5S:CT:=l5 (fun (x:(List d7)×Int) h=>b5Z x.1 x.2 h)
@[go_sem] def c4Q:=fun a x0=>nm' (fP' a5S rfl (a,x0))
@[go_sem] def b5j:ACode:=q' 2 [ao (.box 2 (.t 0)),az 4 0] (q' 5 [aG 1 2,am 1,ac 347 [6,7],aV 1] (.seq (q' 9 [am 1,ao (.bin .lss (.t 9) (k' 0))] (.cond (.t 10) (q' 4 [ao (.mov (.k (.v
 false [.c (.i .i64 (-1))])))] .ret) .skip)) (q' 11 [am 1,aV 4] .ret)))
theorem b8k (a:f8) (left:Int) (hpre:0≤left∧left≤1048576):Z9 Tryz.prog 258 [(true,[.i .i64 a.Arity,.sl false [.sl false [.i .i64 0,.s []] []] (a.Rows.map (d7.cells false false))]),(false,[.i .i64 left])] [] (.one (false,[.i .i64 (szR left (b4M a:Nat))])):=by
 refine sx' false false none Tryz.func258 b5j [.t 4] [(347,[],a5S)] ?_
 intro hb hE
 simp only [go_sem];(repeat' first | apply CJ.mk | intro hc);all_goals try exact om'
 all_goals ((repeat (simp (disch:=omega) only [p6] at *))<;>(try simp only [szR,b4M] at *)<;>(first | omega | (split<;>omega)))
noncomputable def a7E:CT:=l5 (fun (x:f8×Int) h=>b8k x.1 x.2 h)
@[go_sem] def c6p:=fun x0 x1 x2=>nm' (fP' a7E rfl (⟨x0,x1⟩,x2))
@[go_sem] def b0F:ACode:=q' 2 [ao (.box 3 (.t 0)),az 4 0] (q' 5 [am 1,aG 0 2,ao (.lens (.t 7)),ao (.bin .sub (.t 5) (.t 8)),aV 1] (.seq (q' 10 [am 1,ao (.bin .lss (.t 10) (k' 0))]
 (.cond (.t 11) (q' 4 [ao (.mov (.k (.v false [.c (.i .i64 (-1))])))] .ret) .skip)) (q' 12 [af 1 2,aE 2,am 1,ac 258 [13,14],aV 1] (.seq (q' 16 [am 1,ao (.bin
 .lss (.t 16) (k' 0))] (.cond (.t 17) (q' 4 [ao (.mov (.k (.v false [.c (.i .i64 (-1))])))] .ret) .skip)) (q' 18 [am 1,aV 4] .ret)))))
theorem b3V (a:c9) (left:Int) (hpre:0≤left∧left≤1048576):Z9 Tryz.prog 144 [(true,[.s a.Name,.i .i64 a.Rel.Arity,.sl false [.sl false [.i .i64 0,.s []] []] (a.Rel.Rows.map (d7.cells false false))]),(false,[.i .i64 left])] [] (.one (false,[.i .i64 (szR left (u9 a:Nat))])):=by
 refine sx' false false none Tryz.func144 b0F [.t 4] [(258,[],a7E)] ?_
 intro hb hE
 simp only [go_sem];(repeat' first | apply CJ.mk | intro hc);all_goals try exact om'
 all_goals ((repeat (simp (disch:=omega) only [p6] at *))<;>(try simp only [szR,u9] at *)<;>(first | omega | (split<;>omega)))
noncomputable def a4G:CT:=l5 (fun (x:c9×Int) h=>b3V x.1 x.2 h)
@[go_sem] def c2X:=fun x0 x1 x2 x3=>nm' (fP' a4G rfl (⟨x0,⟨x1,x2⟩⟩,x3))
@[go_sem] def a8M:ACode:=q' 4 [aK 0] (q' 6 [aM [1,0],aN,ao (.bin .sub (.t 6) (.t 8)),aV 1] (.seq (q' 10 [am 1,ao (.bin .lss (.t 10) (k' 0))] (.cond (.t 11) (q' 4 [ao (.mov (.k (.v false
 [.c (.i .i64 (-1))])))] .ret) .skip)) (.seq (q' 5 [aK 0] (.block 0 (.loop (.seq (q' 12 [aM [5,0],aN,ar 12 14] (.cond (.t 15) .skip (.exit 0))) (.seq (.block 1
 (q' 18 [aM [0,5],aI 3,aE 3,am 1,ac 144 [21,22],aV 1] (q' 24 [am 1,ao (.bin .lss (.t 24) (k' 0))] (.cond (.t 25) (q' 4 [ao (.mov (.k (.v false [.c (.i .i64
 (-1))])))] .ret) .skip)))) (g' 16 [aB 5])))))) (q' 26 [am 1,aV 4] .ret))))
theorem b1t (a:List c9) (left:Int) (hpre:0≤left∧left≤1048576):Z9 Tryz.prog 63 [(false,[.sl false [.s [],.i .i64 0,.sl false [.sl false [.i .i64 0,.s []] []] []] (a.map (c9.cells false false))]),(false,[.i .i64 left])] [] (.one (false,[.i .i64 (szR left ((a.length+n0 u9 a):Nat))])):=by
 refine sx' false false none Tryz.func63 a8M [.t 4] [(144,[],a4G)] ?_
 intro hb hE
 simp only [go_sem];(repeat' first | apply CJ.mk | intro hc);all_goals try exact om'
 ·all_goals ((repeat (simp (disch:=omega) only [p6] at *))<;>(try simp only [szR,szR] at *)<;>(first | omega | (split<;>omega)))
 have hw:=p6 (l:=left) (n:=a.length) (by omega) (by omega) (by omega) (by omega)
 rw [hw] at hc
 refine lq' false [0] [] [] (fun i:{i:Nat // i≤a.length∧(a.length:Int)+(n0 u9 (a.take i):Nat)≤left}=>[(5,slV (.i .i64 i.1)),(1,slV (.i .i64 (left - a.length - (n0 u9 (a.take i.1):Nat))))]) nl' nl' (fun i=>a.length - i.1) (⟨0,by simp only [List.take_zero,a0h];omega⟩) ?_
 intro S0 hS0 i
 obtain ⟨i,hi,ht⟩:=i
 simp only [go_sem,hw,hS0];(repeat' first | apply CJ.mk | intro hc);all_goals try exact om'
 ·have h1:=i7 u9 (default:c9) (show i < a.length by omega)
  have h2:=s7 u9 a (i+1)
  all_goals ((repeat (simp (disch:=omega) only [p6] at *))<;>(try simp only [szR,szR] at *)<;>(first | omega | (split<;>omega)))
 ·have h1:=i7 u9 (default:c9) (show i < a.length by omega)
  (refine lpK_n2 (⟨i+1,by omega,by unfold szR at hc;split at hc<;>omega⟩) _ rfl ?_;simp only [go_sem,hw,hS0];first | done | ((repeat' apply And.intro)<;>try exact on'))
  rw [h1]
  unfold szR at hc ⊢
  split at hc<;>omega
 ·have h1:=a0P u9 (show ¬ i < a.length by omega)
  all_goals ((repeat (simp (disch:=omega) only [p6] at *))<;>(try simp only [szR,szR] at *)<;>(first | omega | (split<;>omega)))
 all_goals all_goals ((repeat (simp (disch:=omega) only [p6] at *))<;>(try simp only [szR,szR] at *)<;>(first | omega | (split<;>omega)))
noncomputable def a3J:CT:=l5 (fun (x:(List c9)×Int) h=>b1t x.1 x.2 h)
@[go_sem] def c1E:=fun a x0=>nm' (fP' a3J rfl (a,x0))
@[go_sem] def b0I:ACode:=q' 2 [ao (.box 1 (.t 0)),az 4 0] (q' 5 [aG 0 2,am 1,ac 63 [6,7],aV 1] (.seq (q' 9 [am 1,ao (.bin .lss (.t 9) (k' 0))] (.cond (.t 10) (q' 4 [ao (.mov (.k (.v
 false [.c (.i .i64 (-1))])))] .ret) .skip)) (q' 11 [am 1,aV 4] .ret)))
theorem b3Y (a:d9) (left:Int) (hpre:0≤left∧left≤1048576):Z9 Tryz.prog 14 [(true,[.sl false [.s [],.i .i64 0,.sl false [.sl false [.i .i64 0,.s []] []] []] (a.Rels.map (c9.cells false false))]),(false,[.i .i64 left])] [] (.one (false,[.i .i64 (szR left (a8u a:Nat))])):=by
 refine sx' false false none Tryz.func14 b0I [.t 4] [(63,[],a3J)] ?_
 intro hb hE
 simp only [go_sem];(repeat' first | apply CJ.mk | intro hc);all_goals try exact om'
 all_goals ((repeat (simp (disch:=omega) only [p6] at *))<;>(try simp only [szR,a8u] at *)<;>(first | omega | (split<;>omega)))
noncomputable def a4J:CT:=l5 (fun (x:d9×Int) h=>b3Y x.1 x.2 h)
@[go_sem] def c3a:=fun x0 x1=>nm' (fP' a4J rfl (⟨x0⟩,x1))
@[go_sem] def b2t:ACode:=q' 2 [ao (.box 4 (.t 0)),az 4 0] (q' 5 [am 1,aG 0 2,ao (.lens (.t 7)),ao (.bin .sub (.t 5) (.t 8)),aV 1] (.seq (q' 10 [am 1,ao (.bin .lss (.t 10) (k' 0))]
 (.cond (.t 11) (q' 4 [ao (.mov (.k (.v false [.c (.i .i64 (-1))])))] .ret) .skip)) (q' 12 [af 1 2,aE 1,am 1,ac 101 [13,14],aV 1] (.seq (q' 16 [am 1,ao (.bin
 .lss (.t 16) (k' 0))] (.cond (.t 17) (q' 4 [ao (.mov (.k (.v false [.c (.i .i64 (-1))])))] .ret) .skip)) (q' 18 [af 3 2,aE 1,am 1,ac 102 [19,20],aV 1] (.seq
 (q' 22 [am 1,ao (.bin .lss (.t 22) (k' 0))] (.cond (.t 23) (q' 4 [ao (.mov (.k (.v false [.c (.i .i64 (-1))])))] .ret) .skip)) (q' 24 [am 1,aV 4] .ret)))))))
theorem b6b (a:e7) (left:Int) (hpre:0≤left∧left≤1048576):Z9 Tryz.prog 35 [(true,[.s a.Name,.sl false [.i .i64 0,.s []] (a.Row.V.map c7.cells),.i .i64 a.Rule,.sl false [.s [],.i .i64 0,.s []] (a.Env.Binds.map d5.cells)]),(false,[.i .i64 left])] [] (.one (false,[.i .i64 (szR left (a0a a:Nat))])):=by
 refine sx' false false none Tryz.func35 b2t [.t 4] [(102,[],a7C),(101,[],a3n)] ?_
 intro hb hE
 simp only [go_sem];(repeat' first | apply CJ.mk | intro hc);all_goals try exact om'
 all_goals ((repeat (simp (disch:=omega) only [p6] at *))<;>(try simp only [szR,a0a] at *)<;>(first | omega | (split<;>omega)))
noncomputable def a2u:CT:=l5 (fun (x:e7×Int) h=>b6b x.1 x.2 h)
@[go_sem] def c4S:=fun x0 x1 x2 x3 x4=>nm' (fP' a2u rfl (⟨x0,⟨x1⟩,x2,⟨x3⟩⟩,x4))
@[go_sem] def b0H:ACode:=q' 4 [aK 0] (q' 6 [aM [1,0],aN,ao (.bin .sub (.t 6) (.t 8)),aV 1] (.seq (q' 10 [am 1,ao (.bin .lss (.t 10) (k' 0))] (.cond (.t 11) (q' 4 [ao (.mov (.k (.v false
 [.c (.i .i64 (-1))])))] .ret) .skip)) (.seq (q' 5 [aK 0] (.block 0 (.loop (.seq (q' 12 [aM [5,0],aN,ar 12 14] (.cond (.t 15) .skip (.exit 0))) (.seq (.block 1
 (q' 18 [aM [0,5],aI 4,aE 4,am 1,ac 35 [21,22],aV 1] (q' 24 [am 1,ao (.bin .lss (.t 24) (k' 0))] (.cond (.t 25) (q' 4 [ao (.mov (.k (.v false [.c (.i .i64
 (-1))])))] .ret) .skip)))) (g' 16 [aB 5])))))) (q' 26 [am 1,aV 4] .ret))))
theorem b3X (a:List e7) (left:Int) (hpre:0≤left∧left≤1048576):Z9 Tryz.prog 34 [(false,[.sl false [.s [],.sl false [.i .i64 0,.s []] [],.i .i64 0,.sl false [.s [],.i .i64 0,.s []] []] (a.map (e7.cells false false))]),(false,[.i .i64 left])] [] (.one (false,[.i .i64 (szR left ((a.length+n0 a0a a):Nat))])):=by
 refine sx' false false none Tryz.func34 b0H [.t 4] [(35,[],a2u)] ?_
 intro hb hE
 simp only [go_sem];(repeat' first | apply CJ.mk | intro hc);all_goals try exact om'
 ·all_goals ((repeat (simp (disch:=omega) only [p6] at *))<;>(try simp only [szR,szR] at *)<;>(first | omega | (split<;>omega)))
 have hw:=p6 (l:=left) (n:=a.length) (by omega) (by omega) (by omega) (by omega)
 rw [hw] at hc
 refine lq' false [0] [] [] (fun i:{i:Nat // i≤a.length∧(a.length:Int)+(n0 a0a (a.take i):Nat)≤left}=>[(5,slV (.i .i64 i.1)),(1,slV (.i .i64 (left - a.length - (n0 a0a (a.take i.1):Nat))))]) nl' nl' (fun i=>a.length - i.1) (⟨0,by simp only [List.take_zero,a0h];omega⟩) ?_
 intro S0 hS0 i
 obtain ⟨i,hi,ht⟩:=i
 simp only [go_sem,hw,hS0];(repeat' first | apply CJ.mk | intro hc);all_goals try exact om'
 ·have h1:=i7 a0a (default:e7) (show i < a.length by omega)
  have h2:=s7 a0a a (i+1)
  all_goals ((repeat (simp (disch:=omega) only [p6] at *))<;>(try simp only [szR,szR] at *)<;>(first | omega | (split<;>omega)))
 ·have h1:=i7 a0a (default:e7) (show i < a.length by omega)
  (refine lpK_n2 (⟨i+1,by omega,by unfold szR at hc;split at hc<;>omega⟩) _ rfl ?_;simp only [go_sem,hw,hS0];first | done | ((repeat' apply And.intro)<;>try exact on'))
  rw [h1]
  unfold szR at hc ⊢
  split at hc<;>omega
 ·have h1:=a0P a0a (show ¬ i < a.length by omega)
  all_goals ((repeat (simp (disch:=omega) only [p6] at *))<;>(try simp only [szR,szR] at *)<;>(first | omega | (split<;>omega)))
 all_goals all_goals ((repeat (simp (disch:=omega) only [p6] at *))<;>(try simp only [szR,szR] at *)<;>(first | omega | (split<;>omega)))
noncomputable def a4I:CT:=l5 (fun (x:(List e7)×Int) h=>b3X x.1 x.2 h)
@[go_sem] def c2Z:=fun a x0=>nm' (fP' a4I rfl (a,x0))
@[go_sem] def a8P:ACode:=q' 2 [ao (.mov (.k (.v false [.nl [.i .i64 0,.s []]])))] (q' 5 [am 0,aN,ao (.mks 2 24 [.i .i64,.s] (.t 6) (.t 6)),aV 3] (.seq (q' 4 [aK 0] (.block 0 (.loop
 (.seq (q' 8 [aM [4,0],aN,ar 8 10] (.cond (.t 11) .skip (.exit 0))) (.seq (.block 1 (g' 14 [aM [3,4,0,4],aI 2,aE 2,ac 324 [19],ai 2 14 15,aS 2 21 20])) (g' 12
 [aB 4])))))) (q' 22 [am 3,aV 2] .ret)))
theorem b1w (a:List c7) (hpre:(((a.length+n0 w4 a):Nat):Int)≤1048576):Z9 Tryz.prog 218 [(false,[.sl false [.i .i64 0,.s []] (a.map c7.cells)])] [] (.one (false,[.sl true [.i .i64 0,.s []] (a.map c7.cells)])):=by
 refine sx' true false none Tryz.func218 a8P [.t 2] [(324,[],a0B)] ?_
 intro hb hE
 simp only [go_sem,a6n];(repeat' first | apply CJ.mk | intro hc);all_goals try exact om'
 refine lq' true [0,3] [] [] (fun i:{p:Nat×(List c7) // p.1≤a.length∧p.2.length=a.length∧p.2.take p.1=a.take p.1}=>[(4,slV (.i .i64 i.1.1))]) nl' (fun i=>[(896,[.i .i64 0,.s []],i.1.2.map c7.cells)]) (fun i=>a.length - i.1.1) (⟨(0,List.replicate a.length default),by simp⟩) ?_
 intro S0 hS0 i
 obtain ⟨⟨i,L⟩,hi,hl,ht⟩:=i
 simp only at hi hl ht
 simp only [go_sem,a6n,hS0];(repeat' first | apply CJ.mk | intro hc);all_goals try exact om'
 ·(refine lpK_n2 (⟨(i+1,L.set i (a.getD i default)),by simp only;omega,by simp [hl],s6 hl ht (by omega)⟩) _ rfl ?_;simp only [go_sem,a6n,hS0];first | done | ((repeat' apply And.intro)<;>try exact on'))
 ·obtain rfl:=j7 hl ht (by omega)
  rfl
noncomputable def a3M:CT:=l5 (fun (x:(List c7)) h=>b1w x h)
@[go_sem] def c1H:=fun a=>nm' (fP' a3M rfl a)
@[go_sem] def b5o:ACode:=q' 1 [ao (.box 1 (.t 0)),aw [.sl [.i .i64 0,.s []]]] (q' 3 [aw [.sl [.i .i64 0,.s []]]] (q' 4 [aG 0 1,ac 218 [5],af 0 3,aS 1 7 6] (q' 8 [ae 1 3,aS 1 2 8]
 .ret)))
theorem b8p (a:d7) (hpre:(a0o a:Int)≤1048576):Z9 Tryz.prog 107 [(true,[.sl false [.i .i64 0,.s []] (a.V.map c7.cells)])] [] (.one (true,[.sl true [.i .i64 0,.s []] (a.V.map c7.cells)])):=by
 refine sx' true false none Tryz.func107 b5o [.c 2 true 1] [(218,[],a3M)] ?_
 intro hb hE
 simp only [go_sem];(repeat' first | apply CJ.mk | intro hc);all_goals try exact om'
 all_goals (simp only [a0o] at *;omega)
noncomputable def a3o:CT:=l5 (fun (x:d7) h=>b8p x h)
@[go_sem] def c6u:=fun x0=>nm' (fP' a3o rfl ⟨x0⟩)
@[go_sem] def b2z:ACode:=q' 2 [ao (.mov (.k (.v false [.nl [.sl false [.i .i64 0,.s []] []]])))] (q' 5 [am 0,aN,ao (.mks 1 24 [.sl [.i .i64 0,.s []]] (.t 6) (.t 6)),aV 3] (.seq (q' 4
 [aK 0] (.block 0 (.loop (.seq (q' 8 [aM [4,0],aN,ar 8 10] (.cond (.t 11) .skip (.exit 0))) (.seq (.block 1 (g' 14 [aM [3,4,0,4],aI 1,aE 1,ac 107 [19],ai 1 14
 15,aS 1 21 20])) (g' 12 [aB 4])))))) (q' 22 [am 3,aV 2] .ret)))
theorem b6h (a:List d7) (hpre:(((a.length+n0 a0o a):Nat):Int)≤1048576):Z9 Tryz.prog 349 [(false,[.sl false [.sl false [.i .i64 0,.s []] []] (a.map (d7.cells false false))])] [] (.one (false,[.sl true [.sl true [.i .i64 0,.s []] []] (a.map (d7.cells true true))])):=by
 refine sx' true false none Tryz.func349 b2z [.t 2] [(107,[],a3o)] ?_
 intro hb hE
 simp only [go_sem,b1P];(repeat' first | apply CJ.mk | intro hc);all_goals try exact om'
 refine lq' true [0,3] [] [] (fun i:{p:Nat×(List d7) // p.1≤a.length∧p.2.length=a.length∧p.2.take p.1=a.take p.1}=>[(4,slV (.i .i64 i.1.1))]) nl' (fun i=>[(896,[.sl true [.i .i64 0,.s []] []],i.1.2.map (d7.cells true true))]) (fun i=>a.length - i.1.1) (⟨(0,List.replicate a.length default),by simp⟩) ?_
 intro S0 hS0 i
 obtain ⟨⟨i,L⟩,hi,hl,ht⟩:=i
 simp only at hi hl ht
 have hg:=a3e a0o a i default rfl
 simp only [go_sem,b1P,hS0];(repeat' first | apply CJ.mk | intro hc);all_goals try exact om'
 ·(refine lpK_n2 (⟨(i+1,L.set i (a.getD i default)),by simp only;omega,by simp [hl],s6 hl ht (by omega)⟩) _ rfl ?_;simp only [go_sem,b1P,hS0];first | done | ((repeat' apply And.intro)<;>try exact on'))
 ·obtain rfl:=j7 hl ht (by omega)
  rfl
noncomputable def a5X:CT:=l5 (fun (x:(List d7)) h=>b6h x h)
@[go_sem] def c4Y:=fun a=>nm' (fP' a5X rfl a)
@[go_sem] def b5n:ACode:=q' 1 [ao (.box 2 (.t 0)),aw [.i .i64,.sl [.sl false [.i .i64 0,.s []] []]]] (q' 3 [aw [.i .i64,.sl [.sl false [.i .i64 0,.s []] []]]] (q' 4 [aG 0 1,af 0
 3,aS 1 6 5] (q' 7 [aG 1 1,ac 349 [8],af 1 3,aS 1 10 9] (q' 11 [ae 2 3,aS 2 2 11] .ret))))
theorem b8o (a:f8) (hpre:(b4M a:Int)≤1048576):Z9 Tryz.prog 264 [(true,[.i .i64 a.Arity,.sl false [.sl false [.i .i64 0,.s []] []] (a.Rows.map (d7.cells false false))])] [] (.one (true,[.i .i64 a.Arity,.sl true [.sl true [.i .i64 0,.s []] []] (a.Rows.map (d7.cells true true))])):=by
 refine sx' true false none Tryz.func264 b5n [.c 2 true 2] [(349,[],a5X)] ?_
 intro hb hE
 simp only [go_sem];(repeat' first | apply CJ.mk | intro hc);all_goals try exact om'
 all_goals (simp only [b4M] at *;omega)
noncomputable def a7H:CT:=l5 (fun (x:f8) h=>b8o x h)
@[go_sem] def c6t:=fun x0 x1=>nm' (fP' a7H rfl ⟨x0,x1⟩)
@[go_sem] def b0N:ACode:=q' 1 [ao (.box 3 (.t 0)),aw [.s,.i .i64,.sl [.sl false [.i .i64 0,.s []] []]]] (q' 3 [aw [.s,.i .i64,.sl [.sl false [.i .i64 0,.s []] []]]] (q' 4 [aG 0
 1,af 0 3,aS 1 6 5] (q' 7 [af 1 1,aE 2,ac 264 [8],af 1 3,aS 2 10 9] (q' 11 [ae 3 3,aS 3 2 11] .ret))))
theorem b4d (a:c9) (hpre:(u9 a:Int)≤1048576):Z9 Tryz.prog 149 [(true,[.s a.Name,.i .i64 a.Rel.Arity,.sl false [.sl false [.i .i64 0,.s []] []] (a.Rel.Rows.map (d7.cells false false))])] [] (.one (true,[.s a.Name,.i .i64 a.Rel.Arity,.sl true [.sl true [.i .i64 0,.s []] []] (a.Rel.Rows.map (d7.cells true true))])):=by
 refine sx' true false none Tryz.func149 b0N [.c 2 true 3] [(264,[],a7H)] ?_
 intro hb hE
 simp only [go_sem];(repeat' first | apply CJ.mk | intro hc);all_goals try exact om'
 all_goals (simp only [u9] at *;omega)
noncomputable def a4N:CT:=l5 (fun (x:c9) h=>b4d x h)
@[go_sem] def c3f:=fun x0 x1 x2=>nm' (fP' a4N rfl ⟨x0,⟨x1,x2⟩⟩)
@[go_sem] def a8O:ACode:=q' 2 [ao (.mov (.k (.v false [.nl [.s [],.i .i64 0,.sl false [.sl false [.i .i64 0,.s []] []] []]])))] (q' 5 [am 0,aN,ao (.mks 3 48 [.s,.i .i64,.sl [.sl
 false [.i .i64 0,.s []] []]] (.t 6) (.t 6)),aV 3] (.seq (q' 4 [aK 0] (.block 0 (.loop (.seq (q' 8 [aM [4,0],aN,ar 8 10] (.cond (.t 11) .skip (.exit 0)))
 (.seq (.block 1 (g' 14 [aM [3,4,0,4],aI 3,aE 3,ac 149 [19],ai 3 14 15,aS 3 21 20])) (g' 12 [aB 4])))))) (q' 22 [am 3,aV 2] .ret)))
theorem b1v (a:List c9) (hpre:(((a.length+n0 u9 a):Nat):Int)≤1048576):Z9 Tryz.prog 67 [(false,[.sl false [.s [],.i .i64 0,.sl false [.sl false [.i .i64 0,.s []] []] []] (a.map (c9.cells false false))])] [] (.one (false,[.sl true [.s [],.i .i64 0,.sl true [.sl true [.i .i64 0,.s []] []] []] (a.map (c9.cells true true))])):=by
 refine sx' true false none Tryz.func67 a8O [.t 2] [(149,[],a4N)] ?_
 intro hb hE
 simp only [go_sem,a6l];(repeat' first | apply CJ.mk | intro hc);all_goals try exact om'
 refine lq' true [0,3] [] [] (fun i:{p:Nat×(List c9) // p.1≤a.length∧p.2.length=a.length∧p.2.take p.1=a.take p.1}=>[(4,slV (.i .i64 i.1.1))]) nl' (fun i=>[(896,[.s [],.i .i64 0,.sl true [.sl true [.i .i64 0,.s []] []] []],i.1.2.map (c9.cells true true))]) (fun i=>a.length - i.1.1) (⟨(0,List.replicate a.length default),by simp⟩) ?_
 intro S0 hS0 i
 obtain ⟨⟨i,L⟩,hi,hl,ht⟩:=i
 simp only at hi hl ht
 have hg:=a3e u9 a i default rfl
 simp only [go_sem,a6l,hS0];(repeat' first | apply CJ.mk | intro hc);all_goals try exact om'
 ·(refine lpK_n2 (⟨(i+1,L.set i (a.getD i default)),by simp only;omega,by simp [hl],s6 hl ht (by omega)⟩) _ rfl ?_;simp only [go_sem,a6l,hS0];first | done | ((repeat' apply And.intro)<;>try exact on'))
 ·obtain rfl:=j7 hl ht (by omega)
  rfl
noncomputable def a3L:CT:=l5 (fun (x:(List c9)) h=>b1v x h)
@[go_sem] def c1G:=fun a=>nm' (fP' a3L rfl a)
@[go_sem] def b0Q:ACode:=q' 1 [ao (.box 1 (.t 0)),aw [.sl [.s [],.i .i64 0,.sl false [.sl false [.i .i64 0,.s []] []] []]]] (q' 3 [aw [.sl [.s [],.i .i64 0,.sl false [.sl false [.i
 .i64 0,.s []] []] []]]] (q' 4 [aG 0 1,ac 67 [5],af 0 3,aS 1 7 6] (q' 8 [ae 1 3,aS 1 2 8] .ret)))
theorem b4g (a:d9) (hpre:(a8u a:Int)≤1048576):Z9 Tryz.prog 17 [(true,[.sl false [.s [],.i .i64 0,.sl false [.sl false [.i .i64 0,.s []] []] []] (a.Rels.map (c9.cells false false))])] [] (.one (true,[.sl true [.s [],.i .i64 0,.sl true [.sl true [.i .i64 0,.s []] []] []] (a.Rels.map (c9.cells true true))])):=by
 refine sx' true false none Tryz.func17 b0Q [.c 2 true 1] [(67,[],a3L)] ?_
 intro hb hE
 simp only [go_sem];(repeat' first | apply CJ.mk | intro hc);all_goals try exact om'
 all_goals (simp only [a8u] at *;omega)
noncomputable def a4Q:CT:=l5 (fun (x:d9) h=>b4g x h)
@[go_sem] def c3i:=fun x0=>nm' (fP' a4Q rfl ⟨x0⟩)
@[go_sem] def b2B:ACode:=q' 1 [ao (.box 4 (.t 0)),aw [.s,.sl [.i .i64 0,.s []],.i .i64,.sl [.s [],.i .i64 0,.s []]]] (q' 3 [aw [.s,.sl [.i .i64 0,.s []],.i .i64,.sl [.s [],.i
 .i64 0,.s []]]] (q' 4 [aG 0 1,af 0 3,aS 1 6 5] (q' 7 [af 1 1,aE 1,ac 107 [8],af 1 3,aS 1 10 9] (q' 11 [aG 2 1,af 2 3,aS 1 13 12] (q' 14 [af 3 1,aE 1,ac 108
 [15],af 3 3,aS 1 17 16] (q' 18 [ae 4 3,aS 4 2 18] .ret))))))
theorem b6j (a:e7) (hpre:(a0a a:Int)≤1048576):Z9 Tryz.prog 39 [(true,[.s a.Name,.sl false [.i .i64 0,.s []] (a.Row.V.map c7.cells),.i .i64 a.Rule,.sl false [.s [],.i .i64 0,.s []] (a.Env.Binds.map d5.cells)])] [] (.one (true,[.s a.Name,.sl true [.i .i64 0,.s []] (a.Row.V.map c7.cells),.i .i64 a.Rule,.sl true [.s [],.i .i64 0,.s []] (a.Env.Binds.map d5.cells)])):=by
 refine sx' true false none Tryz.func39 b2B [.c 2 true 4] [(108,[],a7F),(107,[],a3o)] ?_
 intro hb hE
 simp only [go_sem];(repeat' first | apply CJ.mk | intro hc);all_goals try exact om'
 all_goals (simp only [a0a] at *;omega)
noncomputable def a2x:CT:=l5 (fun (x:e7) h=>b6j x h)
@[go_sem] def c5a:=fun x0 x1 x2 x3=>nm' (fP' a2x rfl ⟨x0,⟨x1⟩,x2,⟨x3⟩⟩)
@[go_sem] def b0P:ACode:=q' 2 [ao (.mov (.k (.v false [.nl [.s [],.sl false [.i .i64 0,.s []] [],.i .i64 0,.sl false [.s [],.i .i64 0,.s []] []]])))] (q' 5 [am 0,aN,ao (.mks 4 72
 [.s,.sl [.i .i64 0,.s []],.i .i64,.sl [.s [],.i .i64 0,.s []]] (.t 6) (.t 6)),aV 3] (.seq (q' 4 [aK 0] (.block 0 (.loop (.seq (q' 8 [aM [4,0],aN,ar 8
 10] (.cond (.t 11) .skip (.exit 0))) (.seq (.block 1 (g' 14 [aM [3,4,0,4],aI 4,aE 4,ac 39 [19],ai 4 14 15,aS 4 21 20])) (g' 12 [aB 4])))))) (q' 22 [am 3,aV 2]
 .ret)))
theorem b4f (a:List e7) (hpre:(((a.length+n0 a0a a):Nat):Int)≤1048576):Z9 Tryz.prog 38 [(false,[.sl false [.s [],.sl false [.i .i64 0,.s []] [],.i .i64 0,.sl false [.s [],.i .i64 0,.s []] []] (a.map (e7.cells false false))])] [] (.one (false,[.sl true [.s [],.sl true [.i .i64 0,.s []] [],.i .i64 0,.sl true [.s [],.i .i64 0,.s []] []] (a.map (e7.cells true true))])):=by
 refine sx' true false none Tryz.func38 b0P [.t 2] [(39,[],a2x)] ?_
 intro hb hE
 simp only [go_sem,a8z];(repeat' first | apply CJ.mk | intro hc);all_goals try exact om'
 refine lq' true [0,3] [] [] (fun i:{p:Nat×(List e7) // p.1≤a.length∧p.2.length=a.length∧p.2.take p.1=a.take p.1}=>[(4,slV (.i .i64 i.1.1))]) nl' (fun i=>[(896,[.s [],.sl true [.i .i64 0,.s []] [],.i .i64 0,.sl true [.s [],.i .i64 0,.s []] []],i.1.2.map (e7.cells true true))]) (fun i=>a.length - i.1.1) (⟨(0,List.replicate a.length default),by simp⟩) ?_
 intro S0 hS0 i
 obtain ⟨⟨i,L⟩,hi,hl,ht⟩:=i
 simp only at hi hl ht
 have hg:=a3e a0a a i default rfl
 simp only [go_sem,a8z,hS0];(repeat' first | apply CJ.mk | intro hc);all_goals try exact om'
 ·(refine lpK_n2 (⟨(i+1,L.set i (a.getD i default)),by simp only;omega,by simp [hl],s6 hl ht (by omega)⟩) _ rfl ?_;simp only [go_sem,a8z,hS0];first | done | ((repeat' apply And.intro)<;>try exact on'))
 ·obtain rfl:=j7 hl ht (by omega)
  rfl
noncomputable def a4P:CT:=l5 (fun (x:(List e7)) h=>b4f x h)
@[go_sem] def c3h:=fun a=>nm' (fP' a4P rfl a)
@[go_sem] def b2j:ACode:=q' 0 [ab 4 false] (.seq (q' 6 [am 0,aN,am 1,aN,ao (.bin .neq (.t 7) (.t 9))] (.cond (.t 10) (q' 0 [ab 4 false] .ret) .skip)) (.seq (q' 5 [aK 0] (.block 0 (.loop
 (.seq (q' 11 [aM [5,0],aN,ar 11 13] (.cond (.t 14) .skip (.exit 0))) (.seq (.block 1 (.seq (G' 17 [aM [0,5],aI 1,aE 1,aM [1,5],aI 1,aE 1,ac 113 [20,24],ao
 (.not (.t 25))]) (.cond (.t 26) (q' 0 [ab 4 false] .ret) .skip))) (g' 15 [aB 5])))))) (q' 0 [ab 4 true] .ret)))
theorem b5R (a:List d7) (b:List d7):Z9 Tryz.prog 72 [(false,[.sl false [.sl false [.i .i64 0,.s []] []] (a.map (d7.cells false false))]),(false,[.sl false [.sl false [.i .i64 0,.s []] []] (b.map (d7.cells false false))])] [] (.one (false,[.b (decide (a=b))])):=by
 refine sx' false false none Tryz.func72 b2j [.t 4] [(113,[],a3m)] ?_
 intro hb hE
 simp only [go_sem];(repeat' first | apply CJ.mk | intro hc);all_goals try exact om'
 ·symm
  rw [decide_eq_false_iff_not]
  rintro rfl
  simp at hc
 have hl:a.length=b.length:=by simpa [Int.ofNat_inj] using hc
 refine lq' false [0,1] [] [] (fun i:{i:Nat // i≤a.length∧a.take i=b.take i}=>[(5,slV (.i .i64 i.1))]) nl' nl' (fun i=>a.length - i.1) (⟨0,by simp⟩) ?_
 intro S0 hS0 i
 obtain ⟨i,hi,ht⟩:=i
 simp only [go_sem,hS0];(repeat' first | apply CJ.mk | intro hc);all_goals try exact om'
 ·exact (decide_eq_false (u1 default (i:=i) (by simpa using hc))).symm
 ·exact nx0 ⟨i+1,by omega,o8 ht (by omega) (by omega) (d:=default) (by simpa using hc)⟩
 ·exact (decide_eq_true (j7 hl ht (by omega))).symm
noncomputable def a5N:CT:=i3 (fun (x:(List d7)×(List d7))=>b5R x.1 x.2)
@[go_sem] def c4I:=fun a b=>nm' (fQ' a5N rfl (a,b))
@[go_sem] def b5f:ACode:=q' 2 [ao (.box 2 (.t 0)),ao (.box 2 (.t 1)),ao (.mov (bb false))] (.seq (q' 5 [aG 0 2,aG 0 3,ao (.bin .neq (.t 6) (.t 8))] (.cond (.t 9) (q' 0 [ab 4 false]
 .ret) .skip)) (.seq (q' 10 [aG 1 2,aG 1 3,ac 72 [11,13],ao (.not (.t 14))] (.cond (.t 15) (q' 0 [ab 4 false] .ret) .skip)) (q' 0 [ab 4 true] .ret)))
theorem b8g (a:f8) (b:f8):Z9 Tryz.prog 19 [(true,[.i .i64 a.Arity,.sl false [.sl false [.i .i64 0,.s []] []] (a.Rows.map (d7.cells false false))]),(true,[.i .i64 b.Arity,.sl false [.sl false [.i .i64 0,.s []] []] (b.Rows.map (d7.cells false false))])] [] (.one (false,[.b (decide (a=b))])):=by
 refine sx' false false none Tryz.func19 b5f [.t 4] [(72,[],a5N)] ?_
 intro hb hE
 simp only [go_sem];(repeat' first | apply CJ.mk | intro hc);all_goals try exact om'
 all_goals (cases a;cases b;simp_all)
noncomputable def a7B:CT:=i3 (fun (x:f8×f8)=>b8g x.1 x.2)
@[go_sem] def c6l:=fun x0 x1 x2 x3=>nm' (fQ' a7B rfl (⟨x0,x1⟩,⟨x2,x3⟩))
@[go_sem] def b0x:ACode:=q' 2 [ao (.box 3 (.t 0)),ao (.box 3 (.t 1)),ao (.mov (bb false))] (.seq (q' 5 [aG 0 2,aG 0 3,ao (.bin .neq (.t 6) (.t 8))] (.cond (.t 9) (q' 0 [ab 4 false]
 .ret) .skip)) (.seq (q' 10 [af 1 2,aE 2,af 1 3,aE 2,ac 19 [11,13],ao (.not (.t 14))] (.cond (.t 15) (q' 0 [ab 4 false] .ret) .skip)) (q' 0 [ab 4 true] .ret)))
theorem b3N (a:c9) (b:c9):Z9 Tryz.prog 163 [(true,[.s a.Name,.i .i64 a.Rel.Arity,.sl false [.sl false [.i .i64 0,.s []] []] (a.Rel.Rows.map (d7.cells false false))]),(true,[.s b.Name,.i .i64 b.Rel.Arity,.sl false [.sl false [.i .i64 0,.s []] []] (b.Rel.Rows.map (d7.cells false false))])] [] (.one (false,[.b (decide (a=b))])):=by
 refine sx' false false none Tryz.func163 b0x [.t 4] [(19,[],a7B)] ?_
 intro hb hE
 simp only [go_sem];(repeat' first | apply CJ.mk | intro hc);all_goals try exact om'
 all_goals (cases a;cases b;simp_all)
noncomputable def a4z:CT:=i3 (fun (x:c9×c9)=>b3N x.1 x.2)
@[go_sem] def c2P:=fun x0 x1 x2 x3 x4 x5=>nm' (fQ' a4z rfl (⟨x0,⟨x1,x2⟩⟩,⟨x3,⟨x4,x5⟩⟩))
@[go_sem] def a8K:ACode:=q' 0 [ab 4 false] (.seq (q' 6 [am 0,aN,am 1,aN,ao (.bin .neq (.t 7) (.t 9))] (.cond (.t 10) (q' 0 [ab 4 false] .ret) .skip)) (.seq (q' 5 [aK 0] (.block 0 (.loop
 (.seq (q' 11 [aM [5,0],aN,ar 11 13] (.cond (.t 14) .skip (.exit 0))) (.seq (.block 1 (.seq (G' 17 [aM [0,5],aI 3,aE 3,aM [1,5],aI 3,aE 3,ac 163 [20,24],ao
 (.not (.t 25))]) (.cond (.t 26) (q' 0 [ab 4 false] .ret) .skip))) (g' 15 [aB 5])))))) (q' 0 [ab 4 true] .ret)))
theorem b1r (a:List c9) (b:List c9):Z9 Tryz.prog 75 [(false,[.sl false [.s [],.i .i64 0,.sl false [.sl false [.i .i64 0,.s []] []] []] (a.map (c9.cells false false))]),(false,[.sl false [.s [],.i .i64 0,.sl false [.sl false [.i .i64 0,.s []] []] []] (b.map (c9.cells false false))])] [] (.one (false,[.b (decide (a=b))])):=by
 refine sx' false false none Tryz.func75 a8K [.t 4] [(163,[],a4z)] ?_
 intro hb hE
 simp only [go_sem];(repeat' first | apply CJ.mk | intro hc);all_goals try exact om'
 ·symm
  rw [decide_eq_false_iff_not]
  rintro rfl
  simp at hc
 have hl:a.length=b.length:=by simpa [Int.ofNat_inj] using hc
 refine lq' false [0,1] [] [] (fun i:{i:Nat // i≤a.length∧a.take i=b.take i}=>[(5,slV (.i .i64 i.1))]) nl' nl' (fun i=>a.length - i.1) (⟨0,by simp⟩) ?_
 intro S0 hS0 i
 obtain ⟨i,hi,ht⟩:=i
 simp only [go_sem,hS0];(repeat' first | apply CJ.mk | intro hc);all_goals try exact om'
 ·exact (decide_eq_false (u1 default (i:=i) (by simpa using hc))).symm
 ·exact nx0 ⟨i+1,by omega,o8 ht (by omega) (by omega) (d:=default) (by simpa using hc)⟩
 ·exact (decide_eq_true (j7 hl ht (by omega))).symm
noncomputable def a3H:CT:=i3 (fun (x:(List c9)×(List c9))=>b1r x.1 x.2)
@[go_sem] def c1C:=fun a b=>nm' (fQ' a3H rfl (a,b))
@[go_sem] def b0A:ACode:=q' 2 [ao (.box 1 (.t 0)),ao (.box 1 (.t 1)),ao (.mov (bb false))] (.seq (q' 5 [aG 0 2,aG 0 3,ac 75 [6,8],ao (.not (.t 9))] (.cond (.t 10) (q' 0 [ab 4 false]
 .ret) .skip)) (q' 0 [ab 4 true] .ret))
theorem b3Q (a:d9) (b:d9):Z9 Tryz.prog 21 [(true,[.sl false [.s [],.i .i64 0,.sl false [.sl false [.i .i64 0,.s []] []] []] (a.Rels.map (c9.cells false false))]),(true,[.sl false [.s [],.i .i64 0,.sl false [.sl false [.i .i64 0,.s []] []] []] (b.Rels.map (c9.cells false false))])] [] (.one (false,[.b (decide (a=b))])):=by
 refine sx' false false none Tryz.func21 b0A [.t 4] [(75,[],a3H)] ?_
 intro hb hE
 simp only [go_sem];(repeat' first | apply CJ.mk | intro hc);all_goals try exact om'
 all_goals (cases a;cases b;simp_all)
noncomputable def a4C:CT:=i3 (fun (x:d9×d9)=>b3Q x.1 x.2)
@[go_sem] def c2S:=fun x0 x1=>nm' (fQ' a4C rfl (⟨x0⟩,⟨x1⟩))
@[go_sem] def b2l:ACode:=q' 2 [ao (.box 4 (.t 0)),ao (.box 4 (.t 1)),ao (.mov (bb false))] (.seq (q' 5 [aG 0 2,aG 0 3,ao (.bin .neq (.t 6) (.t 8))] (.cond (.t 9) (q' 0 [ab 4 false]
 .ret) .skip)) (.seq (q' 10 [af 1 2,aE 1,af 1 3,aE 1,ac 113 [11,13],ao (.not (.t 14))] (.cond (.t 15) (q' 0 [ab 4 false] .ret) .skip)) (.seq (q' 16 [aG 2 2,aG
 2 3,ao (.bin .neq (.t 17) (.t 19))] (.cond (.t 20) (q' 0 [ab 4 false] .ret) .skip)) (.seq (q' 21 [af 3 2,aE 1,af 3 3,aE 1,ac 114 [22,24],ao (.not (.t 25))]
 (.cond (.t 26) (q' 0 [ab 4 false] .ret) .skip)) (q' 0 [ab 4 true] .ret)))))
theorem b5T (a:e7) (b:e7):Z9 Tryz.prog 43 [(true,[.s a.Name,.sl false [.i .i64 0,.s []] (a.Row.V.map c7.cells),.i .i64 a.Rule,.sl false [.s [],.i .i64 0,.s []] (a.Env.Binds.map d5.cells)]),(true,[.s b.Name,.sl false [.i .i64 0,.s []] (b.Row.V.map c7.cells),.i .i64 b.Rule,.sl false [.s [],.i .i64 0,.s []] (b.Env.Binds.map d5.cells)])] [] (.one (false,[.b (decide (a=b))])):=by
 refine sx' false false none Tryz.func43 b2l [.t 4] [(114,[],a7z),(113,[],a3m)] ?_
 intro hb hE
 simp only [go_sem];(repeat' first | apply CJ.mk | intro hc);all_goals try exact om'
 all_goals (cases a;cases b;simp_all)
noncomputable def a2r:CT:=i3 (fun (x:e7×e7)=>b5T x.1 x.2)
@[go_sem] def c4K:=fun x0 x1 x2 x3 x4 x5 x6 x7=>nm' (fQ' a2r rfl (⟨x0,⟨x1⟩,x2,⟨x3⟩⟩,⟨x4,⟨x5⟩,x6,⟨x7⟩⟩))
@[go_sem] def b0z:ACode:=q' 0 [ab 4 false] (.seq (q' 6 [am 0,aN,am 1,aN,ao (.bin .neq (.t 7) (.t 9))] (.cond (.t 10) (q' 0 [ab 4 false] .ret) .skip)) (.seq (q' 5 [aK 0] (.block 0 (.loop
 (.seq (q' 11 [aM [5,0],aN,ar 11 13] (.cond (.t 14) .skip (.exit 0))) (.seq (.block 1 (.seq (G' 17 [aM [0,5],aI 4,aE 4,aM [1,5],aI 4,aE 4,ac 43 [20,24],ao
 (.not (.t 25))]) (.cond (.t 26) (q' 0 [ab 4 false] .ret) .skip))) (g' 15 [aB 5])))))) (q' 0 [ab 4 true] .ret)))
theorem b3P (a:List e7) (b:List e7):Z9 Tryz.prog 42 [(false,[.sl false [.s [],.sl false [.i .i64 0,.s []] [],.i .i64 0,.sl false [.s [],.i .i64 0,.s []] []] (a.map (e7.cells false false))]),(false,[.sl false [.s [],.sl false [.i .i64 0,.s []] [],.i .i64 0,.sl false [.s [],.i .i64 0,.s []] []] (b.map (e7.cells false false))])] [] (.one (false,[.b (decide (a=b))])):=by
 refine sx' false false none Tryz.func42 b0z [.t 4] [(43,[],a2r)] ?_
 intro hb hE
 simp only [go_sem];(repeat' first | apply CJ.mk | intro hc);all_goals try exact om'
 ·symm
  rw [decide_eq_false_iff_not]
  rintro rfl
  simp at hc
 have hl:a.length=b.length:=by simpa [Int.ofNat_inj] using hc
 refine lq' false [0,1] [] [] (fun i:{i:Nat // i≤a.length∧a.take i=b.take i}=>[(5,slV (.i .i64 i.1))]) nl' nl' (fun i=>a.length - i.1) (⟨0,by simp⟩) ?_
 intro S0 hS0 i
 obtain ⟨i,hi,ht⟩:=i
 simp only [go_sem,hS0];(repeat' first | apply CJ.mk | intro hc);all_goals try exact om'
 ·exact (decide_eq_false (u1 default (i:=i) (by simpa using hc))).symm
 ·exact nx0 ⟨i+1,by omega,o8 ht (by omega) (by omega) (d:=default) (by simpa using hc)⟩
 ·exact (decide_eq_true (j7 hl ht (by omega))).symm
noncomputable def a4B:CT:=i3 (fun (x:(List e7)×(List e7))=>b3P x.1 x.2)
@[go_sem] def c2R:=fun a b=>nm' (fQ' a4B rfl (a,b))
end Go.Aw
