/- Terms and rows: sizes, copies, equalities. No condition. -/
import Derived.Test.YtdfnhhecaaaoaaaGreatybB0
namespace Go.Aw
open Go.Proofs
attribute [local irreducible] aft blk lpK retK AW Z9
set_option linter.all false
set_option maxRecDepth 100000
def a0e (x:c8):Nat:=x.Var.length+w5 x.Val
@[go_sem] def b2B:ACode:=q' 2 [ao (.box 3 (.t 0)),az 4 0] (q' 5 [am 1,aG 0 2,ao (.lens (.t 7)),ao (.bin .sub (.t 5) (.t 8)),aV 1] (.seq (q' 10 [am 1,ao (.bin .lss (.t 10) (k' 0))]
 (.cond (.t 11) (q' 4 [ao (.mov (.k (.v false [.c (.i .i64 (-1))])))] .ret) .skip)) (q' 12 [af 1 2,aE 2,am 1,ac 319 [13,14],aV 1] (.seq (q' 16 [am 1,ao (.bin
 .lss (.t 16) (k' 0))] (.cond (.t 17) (q' 4 [ao (.mov (.k (.v false [.c (.i .i64 (-1))])))] .ret) .skip)) (q' 18 [am 1,aV 4] .ret)))))
theorem b6h (a:c8) (left:Int) (hpre:0≤left∧left≤1048576):Z9 Tryz.prog 257 [(true,[.s a.Var,.i .i64 a.Val.N,.s a.Val.S]),(false,[.i .i64 left])] [] (.one (false,[.i .i64 (szR left (a0e a:Nat))])):=by
 refine sx' false false none Tryz.func257 b2B [.t 4] [(319,[],a0C)] ?_
 intro hb hE
 simp only [go_sem];(repeat' first | apply CJ.mk | intro hc);all_goals try exact om'
 all_goals ((repeat (simp (disch:=omega) only [p6] at *))<;>(try simp only [szR,a0e] at *)<;>(first | omega | (split<;>omega)))
noncomputable def a2x:CT:=l5 (fun (x:c8×Int) h=>b6h x.1 x.2 h)
@[go_sem] def c4Z:=fun x0 x1 x2 x3=>nm' (fP' a2x rfl (⟨x0,⟨x1,x2⟩⟩,x3))
@[go_sem] def b0Q:ACode:=q' 4 [aK 0] (q' 6 [aM [1,0],aN,ao (.bin .sub (.t 6) (.t 8)),aV 1] (.seq (q' 10 [am 1,ao (.bin .lss (.t 10) (k' 0))] (.cond (.t 11) (q' 4 [ao (.mov (.k (.v false
 [.c (.i .i64 (-1))])))] .ret) .skip)) (.seq (q' 5 [aK 0] (.block 0 (.loop (.seq (q' 12 [aM [5,0],aN,ar 12 14] (.cond (.t 15) .skip (.exit 0))) (.seq (.block 1
 (q' 18 [aM [0,5],aI 3,aE 3,am 1,ac 257 [21,22],aV 1] (q' 24 [am 1,ao (.bin .lss (.t 24) (k' 0))] (.cond (.t 25) (q' 4 [ao (.mov (.k (.v false [.c (.i .i64
 (-1))])))] .ret) .skip)))) (g' 16 [aB 5])))))) (q' 26 [am 1,aV 4] .ret))))
theorem b4f (a:List c8) (left:Int) (hpre:0≤left∧left≤1048576):Z9 Tryz.prog 142 [(false,[.sl false [.s [],.i .i64 0,.s []] (a.map c8.cells)]),(false,[.i .i64 left])] [] (.one (false,[.i .i64 (szR left ((a.length+n0 a0e a):Nat))])):=by
 refine sx' false false none Tryz.func142 b0Q [.t 4] [(257,[],a2x)] ?_
 intro hb hE
 simp only [go_sem];(repeat' first | apply CJ.mk | intro hc);all_goals try exact om'
 ·all_goals ((repeat (simp (disch:=omega) only [p6] at *))<;>(try simp only [szR,szR] at *)<;>(first | omega | (split<;>omega)))
 have hw:=p6 (l:=left) (n:=a.length) (by omega) (by omega) (by omega) (by omega)
 rw [hw] at hc
 refine lq' false [0] [] [] (fun i:{i:Nat // i≤a.length∧(a.length:Int)+(n0 a0e (a.take i):Nat)≤left}=>[(5,slV (.i .i64 i.1)),(1,slV (.i .i64 (left - a.length - (n0 a0e (a.take i.1):Nat))))]) nl' nl' (fun i=>a.length - i.1) (⟨0,by simp only [List.take_zero,a0l];omega⟩) ?_
 intro S0 hS0 i
 obtain ⟨i,hi,ht⟩:=i
 simp only [go_sem,hw,hS0];(repeat' first | apply CJ.mk | intro hc);all_goals try exact om'
 ·have h1:=i7 a0e (default:c8) (show i < a.length by omega)
  have h2:=s7 a0e a (i+1)
  all_goals ((repeat (simp (disch:=omega) only [p6] at *))<;>(try simp only [szR,szR] at *)<;>(first | omega | (split<;>omega)))
 ·have h1:=i7 a0e (default:c8) (show i < a.length by omega)
  (refine lpK_n2 (⟨i+1,by omega,by unfold szR at hc;split at hc<;>omega⟩) _ rfl ?_;simp only [go_sem,hw,hS0];first | done | ((repeat' apply And.intro)<;>try exact on'))
  rw [h1]
  unfold szR at hc ⊢
  split at hc<;>omega
 ·have h1:=a0Q a0e (show ¬ i < a.length by omega)
  all_goals ((repeat (simp (disch:=omega) only [p6] at *))<;>(try simp only [szR,szR] at *)<;>(first | omega | (split<;>omega)))
 all_goals all_goals ((repeat (simp (disch:=omega) only [p6] at *))<;>(try simp only [szR,szR] at *)<;>(first | omega | (split<;>omega)))
noncomputable def a4K:CT:=l5 (fun (x:(List c8)×Int) h=>b4f x.1 x.2 h)
@[go_sem] def c3i:=fun a x0=>nm' (fP' a4K rfl (a,x0))
@[go_sem] def b2J:ACode:=q' 1 [ao (.box 3 (.t 0)),aw [.s,.i .i64,.s]] (q' 3 [aw [.s,.i .i64,.s]] (q' 4 [aG 0 1,af 0 3,aS 1 6 5] (q' 7 [af 1 1,aE 2,ac 324 [8],af 1 3,aS 2 10 9] (q'
 11 [ae 3 3,aS 3 2 11] .ret))))
theorem b6p (a:c8):Z9 Tryz.prog 263 [(true,[.s a.Var,.i .i64 a.Val.N,.s a.Val.S])] [] (.one (true,[.s a.Var,.i .i64 a.Val.N,.s a.Val.S])):=by
 refine sx' true false none Tryz.func263 b2J [.c 2 true 3] [(324,[],a0D)] ?_
 intro hb hE
 simp only [go_sem];(repeat' first | apply CJ.mk | intro hc);all_goals try exact om'
noncomputable def a2z:CT:=i3 (fun (x:c8)=>b6p x)
@[go_sem] def c5h:=fun x0 x1 x2=>nm' (fQ' a2z rfl ⟨x0,⟨x1,x2⟩⟩)
@[go_sem] def b0Y:ACode:=q' 2 [ao (.mov (.k (.v false [.nl [.s [],.i .i64 0,.s []]])))] (q' 5 [am 0,aN,ao (.mks 3 40 [.s,.i .i64,.s] (.t 6) (.t 6)),aV 3] (.seq (q' 4 [aK 0] (.block
 0 (.loop (.seq (q' 8 [aM [4,0],aN,ar 8 10] (.cond (.t 11) .skip (.exit 0))) (.seq (.block 1 (g' 14 [aM [3,4,0,4],aI 3,aE 3,ac 263 [19],ai 3 14 15,aS 3 21
 20])) (g' 12 [aB 4])))))) (q' 22 [am 3,aV 2] .ret)))
theorem b4n (a:List c8) (hpre:(((a.length+n0 a0e a):Nat):Int)≤1048576):Z9 Tryz.prog 147 [(false,[.sl false [.s [],.i .i64 0,.s []] (a.map c8.cells)])] [] (.one (false,[.sl true [.s [],.i .i64 0,.s []] (a.map c8.cells)])):=by
 refine sx' true false none Tryz.func147 b0Y [.t 2] [(263,[],a2z)] ?_
 intro hb hE
 simp only [go_sem,a8F];(repeat' first | apply CJ.mk | intro hc);all_goals try exact om'
 refine lq' true [0,3] [] [] (fun i:{p:Nat×(List c8) // p.1≤a.length∧p.2.length=a.length∧p.2.take p.1=a.take p.1}=>[(4,slV (.i .i64 i.1.1))]) nl' (fun i=>[(896,[.s [],.i .i64 0,.s []],i.1.2.map c8.cells)]) (fun i=>a.length - i.1.1) (⟨(0,List.replicate a.length default),by simp⟩) ?_
 intro S0 hS0 i
 obtain ⟨⟨i,L⟩,hi,hl,ht⟩:=i
 simp only at hi hl ht
 simp only [go_sem,a8F,hS0];(repeat' first | apply CJ.mk | intro hc);all_goals try exact om'
 ·(refine lpK_n2 (⟨(i+1,L.set i (a.getD i default)),by simp only;omega,by simp [hl],s6 hl ht (by omega)⟩) _ rfl ?_;simp only [go_sem,a8F,hS0];first | done | ((repeat' apply And.intro)<;>try exact on'))
 ·obtain rfl:=j7 hl ht (by omega)
  rfl
noncomputable def a4R:CT:=l5 (fun (x:(List c8)) h=>b4n x h)
@[go_sem] def c3q:=fun a=>nm' (fP' a4R rfl a)
@[go_sem] def b2t:ACode:=q' 2 [ao (.box 3 (.t 0)),ao (.box 3 (.t 1)),ao (.mov (bb false))] (.seq (q' 5 [aG 0 2,aG 0 3,ao (.bin .neq (.t 6) (.t 8))] (.cond (.t 9) (q' 0 [ab 4 false]
 .ret) .skip)) (.seq (q' 10 [af 1 2,aE 2,af 1 3,aE 2,ac 329 [11,13],ao (.not (.t 14))] (.cond (.t 15) (q' 0 [ab 4 false] .ret) .skip)) (q' 0 [ab 4 true]
 .ret)))
theorem b5Z (a:c8) (b:c8):Z9 Tryz.prog 279 [(true,[.s a.Var,.i .i64 a.Val.N,.s a.Val.S]),(true,[.s b.Var,.i .i64 b.Val.N,.s b.Val.S])] [] (.one (false,[.b (decide (a=b))])):=by
 refine sx' false false none Tryz.func279 b2t [.t 4] [(329,[],a0B)] ?_
 intro hb hE
 simp only [go_sem];(repeat' first | apply CJ.mk | intro hc);all_goals try exact om'
 all_goals (cases a;cases b;simp_all)
noncomputable def a2v:CT:=i3 (fun (x:c8×c8)=>b5Z x.1 x.2)
@[go_sem] def c4R:=fun x0 x1 x2 x3 x4 x5=>nm' (fQ' a2v rfl (⟨x0,⟨x1,x2⟩⟩,⟨x3,⟨x4,x5⟩⟩))
@[go_sem] def b0I:ACode:=q' 0 [ab 4 false] (.seq (q' 6 [am 0,aN,am 1,aN,ao (.bin .neq (.t 7) (.t 9))] (.cond (.t 10) (q' 0 [ab 4 false] .ret) .skip)) (.seq (q' 5 [aK 0] (.block 0 (.loop
 (.seq (q' 11 [aM [5,0],aN,ar 11 13] (.cond (.t 14) .skip (.exit 0))) (.seq (.block 1 (.seq (G' 17 [aM [0,5],aI 3,aE 3,aM [1,5],aI 3,aE 3,ac 279 [20,24],ao
 (.not (.t 25))]) (.cond (.t 26) (q' 0 [ab 4 false] .ret) .skip))) (g' 15 [aB 5])))))) (q' 0 [ab 4 true] .ret)))
theorem b3X (a:List c8) (b:List c8):Z9 Tryz.prog 161 [(false,[.sl false [.s [],.i .i64 0,.s []] (a.map c8.cells)]),(false,[.sl false [.s [],.i .i64 0,.s []] (b.map c8.cells)])] [] (.one (false,[.b (decide (a=b))])):=by
 refine sx' false false none Tryz.func161 b0I [.t 4] [(279,[],a2v)] ?_
 intro hb hE
 simp only [go_sem];(repeat' first | apply CJ.mk | intro hc);all_goals try exact om'
 ·symm
  rw [decide_eq_false_iff_not]
  rintro rfl
  simp at hc
 have hl:a.length=b.length:=by simpa [Int.ofNat_inj] using hc
 refine lq' false [0,1] [] [] (fun i:{i:Nat // i≤a.length∧a.take i=b.take i}=>[(5,slV (.i .i64 i.1))]) nl' nl' (fun i=>a.length - i.1) (⟨0,by simp⟩) ?_
 intro S0 hS0 i
 obtain ⟨i,hi,ht⟩:=i
 simp only [go_sem,hS0];(repeat' first | apply CJ.mk | intro hc);all_goals try exact om'
 ·exact (decide_eq_false (u1 default (i:=i) (by simpa using hc))).symm
 ·exact nx0 ⟨i+1,by omega,o8 ht (by omega) (by omega) (d:=default) (by simpa using hc)⟩
 ·exact (decide_eq_true (j7 hl ht (by omega))).symm
noncomputable def a4D:CT:=i3 (fun (x:(List c8)×(List c8))=>b3X x.1 x.2)
@[go_sem] def c3a:=fun a b=>nm' (fQ' a4D rfl (a,b))
@[go_sem] def a8Q:ACode:=q' 0 [ab 4 false] (.seq (q' 6 [am 0,aN,am 1,aN,ao (.bin .neq (.t 7) (.t 9))] (.cond (.t 10) (q' 0 [ab 4 false] .ret) .skip)) (.seq (q' 5 [aK 0] (.block 0 (.loop
 (.seq (q' 11 [aM [5,0],aN,ar 11 13] (.cond (.t 14) .skip (.exit 0))) (.seq (.block 1 (.seq (G' 17 [aM [0,5],aI 2,aE 2,aM [1,5],aI 2,aE 2,ac 329 [20,24],ao
 (.not (.t 25))]) (.cond (.t 26) (q' 0 [ab 4 false] .ret) .skip))) (g' 15 [aB 5])))))) (q' 0 [ab 4 true] .ret)))
theorem b1z (a:List c7) (b:List c7):Z9 Tryz.prog 228 [(false,[.sl false [.i .i64 0,.s []] (a.map c7.cells)]),(false,[.sl false [.i .i64 0,.s []] (b.map c7.cells)])] [] (.one (false,[.b (decide (a=b))])):=by
 refine sx' false false none Tryz.func228 a8Q [.t 4] [(329,[],a0B)] ?_
 intro hb hE
 simp only [go_sem];(repeat' first | apply CJ.mk | intro hc);all_goals try exact om'
 ·symm
  rw [decide_eq_false_iff_not]
  rintro rfl
  simp at hc
 have hl:a.length=b.length:=by simpa [Int.ofNat_inj] using hc
 refine lq' false [0,1] [] [] (fun i:{i:Nat // i≤a.length∧a.take i=b.take i}=>[(5,slV (.i .i64 i.1))]) nl' nl' (fun i=>a.length - i.1) (⟨0,by simp⟩) ?_
 intro S0 hS0 i
 obtain ⟨i,hi,ht⟩:=i
 simp only [go_sem,hS0];(repeat' first | apply CJ.mk | intro hc);all_goals try exact om'
 ·exact (decide_eq_false (u1 default (i:=i) (by simpa using hc))).symm
 ·exact nx0 ⟨i+1,by omega,o8 ht (by omega) (by omega) (d:=default) (by simpa using hc)⟩
 ·exact (decide_eq_true (j7 hl ht (by omega))).symm
noncomputable def a3K:CT:=i3 (fun (x:(List c7)×(List c7))=>b1z x.1 x.2)
@[go_sem] def c1K:=fun a b=>nm' (fQ' a3K rfl (a,b))
@[go_sem] def b5m:ACode:=q' 2 [ao (.box 1 (.t 0)),ao (.box 1 (.t 1)),ao (.mov (bb false))] (.seq (q' 5 [aG 0 2,aG 0 3,ac 228 [6,8],ao (.not (.t 9))] (.cond (.t 10) (q' 0 [ab 4 false]
 .ret) .skip)) (q' 0 [ab 4 true] .ret))
theorem b8l (a:d6) (b:d6):Z9 Tryz.prog 113 [(true,[.sl false [.i .i64 0,.s []] (a.V.map c7.cells)]),(true,[.sl false [.i .i64 0,.s []] (b.V.map c7.cells)])] [] (.one (false,[.b (decide (a=b))])):=by
 refine sx' false false none Tryz.func113 b5m [.t 4] [(228,[],a3K)] ?_
 intro hb hE
 simp only [go_sem];(repeat' first | apply CJ.mk | intro hc);all_goals try exact om'
 all_goals (cases a;cases b;simp_all)
noncomputable def a3n:CT:=i3 (fun (x:d6×d6)=>b8l x.1 x.2)
@[go_sem] def c6r:=fun x0 x1=>nm' (fQ' a3n rfl (⟨x0⟩,⟨x1⟩))
end Go.Aw
