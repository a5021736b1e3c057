/- Environments: sizes, copies, equalities. No condition. -/
import Derived.Test.YtdfnhhecaaaoaaaGreatybG1
import Derived.Test.YtdfnhhecaaaoaaaGreatnBwtyb
namespace Go.Aw
open Go.Proofs
attribute [local irreducible] aft blk lpK retK AW Z9
set_option linter.all false
set_option maxRecDepth 100000
def w5 (x:c7):Nat:=x.S.length
def a0N (x:d4):Nat:=x.Var.length+w5 x.Val
def b4R (x:e8):Nat:=(x.Binds.length+n0 a0N x.Binds)
@[go_sem] def b0R:ACode:=q' 2 [ao (.box 2 (.t 0)),az 4 0] (q' 5 [am 1,aG 1 2,ao (.lens (.t 7)),ao (.bin .sub (.t 5) (.t 8)),aV 1] (.seq (q' 10 [am 1,ao (.bin .lss (.t 10) (k' 0))]
 (.cond (.t 11) (q' 4 [ao (.mov (.k (.v false [.c (.i .i64 (-1))])))] .ret) .skip)) (q' 12 [am 1,aV 4] .ret)))
theorem b4g (a:c7) (left:Int) (hpre:0≤left∧left≤1048576):Z9 Tryz.prog 319 [(true,[.i .i64 a.N,.s a.S]),(false,[.i .i64 left])] [] (.one (false,[.i .i64 (szR left (w5 a:Nat))])):=by
 refine sx' false false none Tryz.func319 b0R [.t 4] [] ?_
 intro hb hE
 simp only [go_sem];(repeat' first | apply CJ.mk | intro hc);all_goals try exact om'
 all_goals ((repeat (simp (disch:=omega) only [p6] at *))<;>(try simp only [szR,w5] at *)<;>(first | omega | (split<;>omega)))
noncomputable def a0C:CT:=l5 (fun (x:c7×Int) h=>b4g x.1 x.2 h)
@[go_sem] def c3j:=fun x0 x1 x2=>nm' (fP' a0C rfl (⟨x0,x1⟩,x2))
@[go_sem] def b2v:ACode:=q' 2 [ao (.box 3 (.t 0)),az 4 0] (q' 5 [am 1,aG 0 2,ao (.lens (.t 7)),ao (.bin .sub (.t 5) (.t 8)),aV 1] (.seq (q' 10 [am 1,ao (.bin .lss (.t 10) (k' 0))]
 (.cond (.t 11) (q' 4 [ao (.mov (.k (.v false [.c (.i .i64 (-1))])))] .ret) .skip)) (q' 12 [af 1 2,aE 2,am 1,ac 319 [13,14],aV 1] (.seq (q' 16 [am 1,ao (.bin
 .lss (.t 16) (k' 0))] (.cond (.t 17) (q' 4 [ao (.mov (.k (.v false [.c (.i .i64 (-1))])))] .ret) .skip)) (q' 18 [am 1,aV 4] .ret)))))
theorem b6b (a:d4) (left:Int) (hpre:0≤left∧left≤1048576):Z9 Tryz.prog 320 [(true,[.s a.Var,.i .i64 a.Val.N,.s a.Val.S]),(false,[.i .i64 left])] [] (.one (false,[.i .i64 (szR left (a0N a:Nat))])):=by
 refine sx' false false none Tryz.func320 b2v [.t 4] [(319,[],a0C)] ?_
 intro hb hE
 simp only [go_sem];(repeat' first | apply CJ.mk | intro hc);all_goals try exact om'
 all_goals ((repeat (simp (disch:=omega) only [p6] at *))<;>(try simp only [szR,a0N] at *)<;>(first | omega | (split<;>omega)))
noncomputable def a5P:CT:=l5 (fun (x:d4×Int) h=>b6b x.1 x.2 h)
@[go_sem] def c4T:=fun x0 x1 x2 x3=>nm' (fP' a5P rfl (⟨x0,⟨x1,x2⟩⟩,x3))
@[go_sem] def b0K:ACode:=q' 4 [aK 0] (q' 6 [aM [1,0],aN,ao (.bin .sub (.t 6) (.t 8)),aV 1] (.seq (q' 10 [am 1,ao (.bin .lss (.t 10) (k' 0))] (.cond (.t 11) (q' 4 [ao (.mov (.k (.v false
 [.c (.i .i64 (-1))])))] .ret) .skip)) (.seq (q' 5 [aK 0] (.block 0 (.loop (.seq (q' 12 [aM [5,0],aN,ar 12 14] (.cond (.t 15) .skip (.exit 0))) (.seq (.block 1
 (q' 18 [aM [0,5],aI 3,aE 3,am 1,ac 320 [21,22],aV 1] (q' 24 [am 1,ao (.bin .lss (.t 24) (k' 0))] (.cond (.t 25) (q' 4 [ao (.mov (.k (.v false [.c (.i .i64
 (-1))])))] .ret) .skip)))) (g' 16 [aB 5])))))) (q' 26 [am 1,aV 4] .ret))))
theorem b3Z (a:List d4) (left:Int) (hpre:0≤left∧left≤1048576):Z9 Tryz.prog 206 [(false,[.sl false [.s [],.i .i64 0,.s []] (a.map d4.cells)]),(false,[.i .i64 left])] [] (.one (false,[.i .i64 (szR left ((a.length+n0 a0N a):Nat))])):=by
 refine sx' false false none Tryz.func206 b0K [.t 4] [(320,[],a5P)] ?_
 intro hb hE
 simp only [go_sem];(repeat' first | apply CJ.mk | intro hc);all_goals try exact om'
 ·all_goals ((repeat (simp (disch:=omega) only [p6] at *))<;>(try simp only [szR,szR] at *)<;>(first | omega | (split<;>omega)))
 have hw:=p6 (l:=left) (n:=a.length) (by omega) (by omega) (by omega) (by omega)
 rw [hw] at hc
 refine lq' false [0] [] [] (fun i:{i:Nat // i≤a.length∧(a.length:Int)+(n0 a0N (a.take i):Nat)≤left}=>[(5,slV (.i .i64 i.1)),(1,slV (.i .i64 (left - a.length - (n0 a0N (a.take i.1):Nat))))]) nl' nl' (fun i=>a.length - i.1) (⟨0,by simp only [List.take_zero,a0l];omega⟩) ?_
 intro S0 hS0 i
 obtain ⟨i,hi,ht⟩:=i
 simp only [go_sem,hw,hS0];(repeat' first | apply CJ.mk | intro hc);all_goals try exact om'
 ·have h1:=i7 a0N (default:d4) (show i < a.length by omega)
  have h2:=s7 a0N a (i+1)
  all_goals ((repeat (simp (disch:=omega) only [p6] at *))<;>(try simp only [szR,szR] at *)<;>(first | omega | (split<;>omega)))
 ·have h1:=i7 a0N (default:d4) (show i < a.length by omega)
  (refine lpK_n2 (⟨i+1,by omega,by unfold szR at hc;split at hc<;>omega⟩) _ rfl ?_;simp only [go_sem,hw,hS0];first | done | ((repeat' apply And.intro)<;>try exact on'))
  rw [h1]
  unfold szR at hc ⊢
  split at hc<;>omega
 ·have h1:=a0Q a0N (show ¬ i < a.length by omega)
  all_goals ((repeat (simp (disch:=omega) only [p6] at *))<;>(try simp only [szR,szR] at *)<;>(first | omega | (split<;>omega)))
 all_goals all_goals ((repeat (simp (disch:=omega) only [p6] at *))<;>(try simp only [szR,szR] at *)<;>(first | omega | (split<;>omega)))
noncomputable def a4E:CT:=l5 (fun (x:(List d4)×Int) h=>b3Z x.1 x.2 h)
@[go_sem] def c3c:=fun a x0=>nm' (fP' a4E rfl (a,x0))
@[go_sem] def b5n:ACode:=q' 2 [ao (.box 1 (.t 0)),az 4 0] (q' 5 [aG 0 2,am 1,ac 206 [6,7],aV 1] (.seq (q' 9 [am 1,ao (.bin .lss (.t 9) (k' 0))] (.cond (.t 10) (q' 4 [ao (.mov (.k (.v
 false [.c (.i .i64 (-1))])))] .ret) .skip)) (q' 11 [am 1,aV 4] .ret)))
theorem b8m (a:e8) (left:Int) (hpre:0≤left∧left≤1048576):Z9 Tryz.prog 102 [(true,[.sl false [.s [],.i .i64 0,.s []] (a.Binds.map d4.cells)]),(false,[.i .i64 left])] [] (.one (false,[.i .i64 (szR left (b4R a:Nat))])):=by
 refine sx' false false none Tryz.func102 b5n [.t 4] [(206,[],a4E)] ?_
 intro hb hE
 simp only [go_sem];(repeat' first | apply CJ.mk | intro hc);all_goals try exact om'
 all_goals ((repeat (simp (disch:=omega) only [p6] at *))<;>(try simp only [szR,b4R] at *)<;>(first | omega | (split<;>omega)))
noncomputable def a7F:CT:=l5 (fun (x:e8×Int) h=>b8m x.1 x.2 h)
@[go_sem] def c6s:=fun x0 x1=>nm' (fP' a7F rfl (⟨x0⟩,x1))
@[go_sem] def b0Z:ACode:=q' 1 [ao (.box 2 (.t 0)),aw [.i .i64,.s]] (q' 3 [aw [.i .i64,.s]] (q' 4 [aG 0 1,af 0 3,aS 1 6 5] (q' 7 [aG 1 1,af 1 3,aS 1 9 8] (q' 10 [ae 2 3,aS 2 2 10]
 .ret))))
theorem b4o (a:c7):Z9 Tryz.prog 324 [(true,[.i .i64 a.N,.s a.S])] [] (.one (true,[.i .i64 a.N,.s a.S])):=by
 refine sx' true false none Tryz.func324 b0Z [.c 2 true 2] [] ?_
 intro hb hE
 simp only [go_sem];(repeat' first | apply CJ.mk | intro hc);all_goals try exact om'
noncomputable def a0D:CT:=i3 (fun (x:c7)=>b4o x)
@[go_sem] def c3r:=fun x0 x1=>nm' (fQ' a0D rfl ⟨x0,x1⟩)
@[go_sem] def b2D:ACode:=q' 1 [ao (.box 3 (.t 0)),aw [.s,.i .i64,.s]] (q' 3 [aw [.s,.i .i64,.s]] (q' 4 [aG 0 1,af 0 3,aS 1 6 5] (q' 7 [af 1 1,aE 2,ac 324 [8],af 1 3,aS 2 10 9] (q'
 11 [ae 3 3,aS 3 2 11] .ret))))
theorem b6j (a:d4):Z9 Tryz.prog 325 [(true,[.s a.Var,.i .i64 a.Val.N,.s a.Val.S])] [] (.one (true,[.s a.Var,.i .i64 a.Val.N,.s a.Val.S])):=by
 refine sx' true false none Tryz.func325 b2D [.c 2 true 3] [(324,[],a0D)] ?_
 intro hb hE
 simp only [go_sem];(repeat' first | apply CJ.mk | intro hc);all_goals try exact om'
noncomputable def a5V:CT:=i3 (fun (x:d4)=>b6j x)
@[go_sem] def c5b:=fun x0 x1 x2=>nm' (fQ' a5V rfl ⟨x0,⟨x1,x2⟩⟩)
@[go_sem] def b0S:ACode:=q' 2 [ao (.mov (.k (.v false [.nl [.s [],.i .i64 0,.s []]])))] (q' 5 [am 0,aN,ao (.mks 3 40 [.s,.i .i64,.s] (.t 6) (.t 6)),aV 3] (.seq (q' 4 [aK 0] (.block
 0 (.loop (.seq (q' 8 [aM [4,0],aN,ar 8 10] (.cond (.t 11) .skip (.exit 0))) (.seq (.block 1 (g' 14 [aM [3,4,0,4],aI 3,aE 3,ac 325 [19],ai 3 14 15,aS 3 21
 20])) (g' 12 [aB 4])))))) (q' 22 [am 3,aV 2] .ret)))
theorem b4h (a:List d4) (hpre:(((a.length+n0 a0N a):Nat):Int)≤1048576):Z9 Tryz.prog 219 [(false,[.sl false [.s [],.i .i64 0,.s []] (a.map d4.cells)])] [] (.one (false,[.sl true [.s [],.i .i64 0,.s []] (a.map d4.cells)])):=by
 refine sx' true false none Tryz.func219 b0S [.t 2] [(325,[],a5V)] ?_
 intro hb hE
 simp only [go_sem,a8B];(repeat' first | apply CJ.mk | intro hc);all_goals try exact om'
 refine lq' true [0,3] [] [] (fun i:{p:Nat×(List d4) // p.1≤a.length∧p.2.length=a.length∧p.2.take p.1=a.take p.1}=>[(4,slV (.i .i64 i.1.1))]) nl' (fun i=>[(896,[.s [],.i .i64 0,.s []],i.1.2.map d4.cells)]) (fun i=>a.length - i.1.1) (⟨(0,List.replicate a.length default),by simp⟩) ?_
 intro S0 hS0 i
 obtain ⟨⟨i,L⟩,hi,hl,ht⟩:=i
 simp only at hi hl ht
 simp only [go_sem,a8B,hS0];(repeat' first | apply CJ.mk | intro hc);all_goals try exact om'
 ·(refine lpK_n2 (⟨(i+1,L.set i (a.getD i default)),by simp only;omega,by simp [hl],s6 hl ht (by omega)⟩) _ rfl ?_;simp only [go_sem,a8B,hS0];first | done | ((repeat' apply And.intro)<;>try exact on'))
 ·obtain rfl:=j7 hl ht (by omega)
  rfl
noncomputable def a4L:CT:=l5 (fun (x:(List d4)) h=>b4h x h)
@[go_sem] def c3k:=fun a=>nm' (fP' a4L rfl a)
@[go_sem] def b5r:ACode:=q' 1 [ao (.box 1 (.t 0)),aw [.sl [.s [],.i .i64 0,.s []]]] (q' 3 [aw [.sl [.s [],.i .i64 0,.s []]]] (q' 4 [aG 0 1,ac 219 [5],af 0 3,aS 1 7 6] (q' 8 [ae 1
 3,aS 1 2 8] .ret)))
theorem b8q (a:e8) (hpre:(b4R a:Int)≤1048576):Z9 Tryz.prog 108 [(true,[.sl false [.s [],.i .i64 0,.s []] (a.Binds.map d4.cells)])] [] (.one (true,[.sl true [.s [],.i .i64 0,.s []] (a.Binds.map d4.cells)])):=by
 refine sx' true false none Tryz.func108 b5r [.c 2 true 1] [(219,[],a4L)] ?_
 intro hb hE
 simp only [go_sem];(repeat' first | apply CJ.mk | intro hc);all_goals try exact om'
 all_goals (simp only [b4R] at *;omega)
noncomputable def a7I:CT:=l5 (fun (x:e8) h=>b8q x h)
@[go_sem] def c6w:=fun x0=>nm' (fP' a7I rfl ⟨x0⟩)
@[go_sem] def b0J:ACode:=q' 2 [ao (.box 2 (.t 0)),ao (.box 2 (.t 1)),ao (.mov (bb false))] (.seq (q' 5 [aG 0 2,aG 0 3,ao (.bin .neq (.t 6) (.t 8))] (.cond (.t 9) (q' 0 [ab 4 false]
 .ret) .skip)) (.seq (q' 10 [aG 1 2,aG 1 3,ao (.bin .neq (.t 11) (.t 13))] (.cond (.t 14) (q' 0 [ab 4 false] .ret) .skip)) (q' 0 [ab 4 true] .ret)))
theorem b3Y (a:c7) (b:c7):Z9 Tryz.prog 329 [(true,[.i .i64 a.N,.s a.S]),(true,[.i .i64 b.N,.s b.S])] [] (.one (false,[.b (decide (a=b))])):=by
 refine sx' false false none Tryz.func329 b0J [.t 4] [] ?_
 intro hb hE
 simp only [go_sem];(repeat' first | apply CJ.mk | intro hc);all_goals try exact om'
 all_goals (cases a;cases b;simp_all)
noncomputable def a0B:CT:=i3 (fun (x:c7×c7)=>b3Y x.1 x.2)
@[go_sem] def c3b:=fun x0 x1 x2 x3=>nm' (fQ' a0B rfl (⟨x0,x1⟩,⟨x2,x3⟩))
@[go_sem] def b2n:ACode:=q' 2 [ao (.box 3 (.t 0)),ao (.box 3 (.t 1)),ao (.mov (bb false))] (.seq (q' 5 [aG 0 2,aG 0 3,ao (.bin .neq (.t 6) (.t 8))] (.cond (.t 9) (q' 0 [ab 4 false]
 .ret) .skip)) (.seq (q' 10 [af 1 2,aE 2,af 1 3,aE 2,ac 329 [11,13],ao (.not (.t 14))] (.cond (.t 15) (q' 0 [ab 4 false] .ret) .skip)) (q' 0 [ab 4 true]
 .ret)))
theorem b5T (a:d4) (b:d4):Z9 Tryz.prog 330 [(true,[.s a.Var,.i .i64 a.Val.N,.s a.Val.S]),(true,[.s b.Var,.i .i64 b.Val.N,.s b.Val.S])] [] (.one (false,[.b (decide (a=b))])):=by
 refine sx' false false none Tryz.func330 b2n [.t 4] [(329,[],a0B)] ?_
 intro hb hE
 simp only [go_sem];(repeat' first | apply CJ.mk | intro hc);all_goals try exact om'
 all_goals (cases a;cases b;simp_all)
noncomputable def a5J:CT:=i3 (fun (x:d4×d4)=>b5T x.1 x.2)
@[go_sem] def c4L:=fun x0 x1 x2 x3 x4 x5=>nm' (fQ' a5J rfl (⟨x0,⟨x1,x2⟩⟩,⟨x3,⟨x4,x5⟩⟩))
@[go_sem] def b0C:ACode:=q' 0 [ab 4 false] (.seq (q' 6 [am 0,aN,am 1,aN,ao (.bin .neq (.t 7) (.t 9))] (.cond (.t 10) (q' 0 [ab 4 false] .ret) .skip)) (.seq (q' 5 [aK 0] (.block 0 (.loop
 (.seq (q' 11 [aM [5,0],aN,ar 11 13] (.cond (.t 14) .skip (.exit 0))) (.seq (.block 1 (.seq (G' 17 [aM [0,5],aI 3,aE 3,aM [1,5],aI 3,aE 3,ac 330 [20,24],ao
 (.not (.t 25))]) (.cond (.t 26) (q' 0 [ab 4 false] .ret) .skip))) (g' 15 [aB 5])))))) (q' 0 [ab 4 true] .ret)))
theorem b3R (a:List d4) (b:List d4):Z9 Tryz.prog 229 [(false,[.sl false [.s [],.i .i64 0,.s []] (a.map d4.cells)]),(false,[.sl false [.s [],.i .i64 0,.s []] (b.map d4.cells)])] [] (.one (false,[.b (decide (a=b))])):=by
 refine sx' false false none Tryz.func229 b0C [.t 4] [(330,[],a5J)] ?_
 intro hb hE
 simp only [go_sem];(repeat' first | apply CJ.mk | intro hc);all_goals try exact om'
 ·symm
  rw [decide_eq_false_iff_not]
  rintro rfl
  simp at hc
 have hl:a.length=b.length:=by simpa [Int.ofNat_inj] using hc
 refine lq' false [0,1] [] [] (fun i:{i:Nat // i≤a.length∧a.take i=b.take i}=>[(5,slV (.i .i64 i.1))]) nl' nl' (fun i=>a.length - i.1) (⟨0,by simp⟩) ?_
 intro S0 hS0 i
 obtain ⟨i,hi,ht⟩:=i
 simp only [go_sem,hS0];(repeat' first | apply CJ.mk | intro hc);all_goals try exact om'
 ·exact (decide_eq_false (u1 default (i:=i) (by simpa using hc))).symm
 ·exact nx0 ⟨i+1,by omega,o8 ht (by omega) (by omega) (d:=default) (by simpa using hc)⟩
 ·exact (decide_eq_true (j7 hl ht (by omega))).symm
noncomputable def a4x:CT:=i3 (fun (x:(List d4)×(List d4))=>b3R x.1 x.2)
@[go_sem] def c2U:=fun a b=>nm' (fQ' a4x rfl (a,b))
@[go_sem] def b5j:ACode:=q' 2 [ao (.box 1 (.t 0)),ao (.box 1 (.t 1)),ao (.mov (bb false))] (.seq (q' 5 [aG 0 2,aG 0 3,ac 229 [6,8],ao (.not (.t 9))] (.cond (.t 10) (q' 0 [ab 4 false]
 .ret) .skip)) (q' 0 [ab 4 true] .ret))
theorem b8i (a:e8) (b:e8):Z9 Tryz.prog 114 [(true,[.sl false [.s [],.i .i64 0,.s []] (a.Binds.map d4.cells)]),(true,[.sl false [.s [],.i .i64 0,.s []] (b.Binds.map d4.cells)])] [] (.one (false,[.b (decide (a=b))])):=by
 refine sx' false false none Tryz.func114 b5j [.t 4] [(229,[],a4x)] ?_
 intro hb hE
 simp only [go_sem];(repeat' first | apply CJ.mk | intro hc);all_goals try exact om'
 all_goals (cases a;cases b;simp_all)
noncomputable def a7C:CT:=i3 (fun (x:e8×e8)=>b8i x.1 x.2)
@[go_sem] def c6o:=fun x0 x1=>nm' (fQ' a7C rfl (⟨x0⟩,⟨x1⟩))
end Go.Aw
