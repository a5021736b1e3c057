/- Names in programs. No condition. -/
import Derived.Test.YtdfnhhecaaaoaaaGreatybG8
namespace Go.Aw
open Go.Proofs
attribute [local irreducible] aft blk lpK retK AW Z9
set_option linter.all false
set_option maxRecDepth 100000
def pkB:List UInt8:=[112,97,99,107,101,116]
def fwB:List UInt8:=[102,111,114,119,97,114,100]
def a1y (p:c4) (name:List UInt8):Int:=bif name==pkB then 4 else bif name==fwB then 1 else bif a0b p name then (v7 p name).Arity else -1
def p9 (p:c4) (name:List UInt8):Int:=(v7 p name).Kind
def movB (p:c4) (name:List UInt8):Bool:=name==pkB || p9 p name==2
def m8 (r:c6):List f5:=r.Head::(r.Body.filter fun l=>!(l.Kind==3)).map d5.Atom
def a5D (p:c4) (l:d5):Bool:=!(l.Kind==3)&&movB p l.Atom.Name
def b9K (p:c4) (r:c6):Bool:=decide ((0:Int) < r.Body.length)&&(r.Body.getD 0 default).Kind==1&&(movB p (r.Body.getD 0 default).Atom.Name&&(!(r.Kind==1) || (r.Body.getD 0 default).Atom.Name==pkB))
def b1o (p:c4) (r:c6):Bool:=bif !(r.Kind==1) || r.Head.Name==fwB then b9K p r&&!(r.Body.drop 1).any (a5D p) else !r.Body.any (a5D p)
def a2I (p:c4) (a:f5):Bool:=decide (a1y p a.Name < 0)
def a2J (p:c4) (a:f5):Bool:=!(a1y p a.Name==(a.Args.length:Int))
def b1p (a:f5):Bool:=a.Name==fwB
def a2h (p:c4) (r:c6):Bool:=bif r.Kind==1 then !(p9 p r.Head.Name==3)&&!(r.Head.Name==fwB) else !(p9 p r.Head.Name==1)
def o6 (p:c4) (r:c6):Int:=bif (m8 r).any (a2I p) then 3 else bif (m8 r).any (a2J p) then 4 else bif a2h p r then 5 else bif ((m8 r).drop 1).any b1p then 6 else bif !b1o p r then 7 else 0
def l8 (p:c4) (i:Nat):Bool:=(p.Decls.getD i default).Name==pkB || (p.Decls.getD i default).Name==fwB || (p.Decls.take i).any fun x=>x.Name==(p.Decls.getD i default).Name
def q0 (p:c4) (i:Nat):Bool:=!(o6 p (p.Rules.getD i default)==0)
def i4 (p:c4):Int×Int:=
 bif !m9 p then (1,0) else
 if u5 p.Decls.length (l8 p) < p.Decls.length then (2,(u5 p.Decls.length (l8 p):Int)) else
 if u5 p.Rules.length (q0 p) < p.Rules.length then (o6 p (p.Rules.getD (u5 p.Rules.length (q0 p)) default),(u5 p.Rules.length (q0 p):Int)) else (0,0)
def atB (l:d5):Bool:=!(l.Kind==3)
theorem c1x (r:c6):(m8 r).length≤r.Body.length+1:=by
 have:=a9q (fun l:d5=>!(l.Kind==3)) d5.Atom r.Body
 simp only [m8,List.length_cons];omega
theorem a9T (r:c6):1≤(m8 r).length:=by simp [m8]
theorem b2W (r:c6):m8 r=r.Head::(r.Body.filter atB).map d5.Atom:=rfl
@[go_sem] def b0s:ACode:=q' 2 [ao (.box 2 (.t 0)),az 4 0] (.seq (q' 7 [am 1] (.block 0 (q' 9 [ao (.bin .eql (.t 7) (.k (.v false [.c (.s [112,97,99,107,101,116])]))),aV 8] (.cond
 (.t 8) (q' 4 [aK 4] .ret) (q' 11 [ao (.bin .eql (.t 7) (.k (.v false [.c (.s [102,111,114,119,97,114,100])]))),aV 10] (.cond (.t 10) (q' 4 [aK 1] .ret)
 .skip)))))) (q' 13 [ae 2 2,am 1,ac 120 [13,14],aV 12,ao (.ext (.t 12) 0),ao (.ext (.t 12) 1),ax (w' 5 [.i .i64,.s,.i .i64]),aS 3 5 16,aV 6] (.seq (q' 18 [am
 6,ao (.not (.t 18))] (.cond (.t 19) (q' 4 [ao (.mov (.k (.v false [.c (.i .i64 (-1))])))] .ret) .skip)) (q' 20 [aG 2 5,aV 4] .ret))))
theorem b3H (p:c4) (name:List UInt8):Z9 Tryz.prog 243 [(true,[.sl false [.i .i64 0,.s [],.i .i64 0] (p.Decls.map d7.cells),.sl false [.i .i64 0,.s [],.sl false [.s [],.i .i64 0,.s []] [],.sl false [.i .i64 0,.s [],.sl false [.s [],.i .i64 0,.s []] [],.i .i64 0,.s [],.i .i64 0,.s [],.s [],.i .i64 0,.s []] []] (p.Rules.map (c6.cells false false))]),(false,[.s name])] [] (.one (false,[.i .i64 (a1y p name)])):=by
 refine sx' false false none Tryz.func243 b0s [.t 4] [(120,[],a2m)] ?_
 intro hb hE
 simp only [go_sem];(repeat' first | apply CJ.mk | intro hc);all_goals try exact om'
 all_goals simp only [a1y,pkB,fwB, *,cond_true,cond_false]
noncomputable def a1I:CT:=i3 (fun (x:c4×(List UInt8))=>b3H x.1 x.2)
@[go_sem] def c2K:=fun x0 x1 x2=>nm' (fQ' a1I rfl (⟨x0,x1⟩,x2))
@[go_sem] def b2f:ACode:=q' 2 [ao (.box 2 (.t 0)),az 4 0] (q' 8 [ae 2 2,am 1,ac 120 [8,9],aV 7,ao (.ext (.t 7) 0),ao (.ext (.t 7) 1),ax (w' 5 [.i .i64,.s,.i .i64]),aS 3 5 11,aV 6] (q'
 13 [aG 0 5,aV 4] .ret))
theorem b5K (p:c4) (name:List UInt8):Z9 Tryz.prog 225 [(true,[.sl false [.i .i64 0,.s [],.i .i64 0] (p.Decls.map d7.cells),.sl false [.i .i64 0,.s [],.sl false [.s [],.i .i64 0,.s []] [],.sl false [.i .i64 0,.s [],.sl false [.s [],.i .i64 0,.s []] [],.i .i64 0,.s [],.i .i64 0,.s [],.s [],.i .i64 0,.s []] []] (p.Rules.map (c6.cells false false))]),(false,[.s name])] [] (.one (false,[.i .i64 (p9 p name)])):=by
 refine sx' false false none Tryz.func225 b2f [.t 4] [(120,[],a2m)] ?_
 intro hb hE
 simp only [go_sem];(repeat' first | apply CJ.mk | intro hc);all_goals try exact om'
 all_goals (first | rfl)
noncomputable def v6:CT:=i3 (fun (x:c4×(List UInt8))=>b5K x.1 x.2)
@[go_sem] def c4D:=fun x0 x1 x2=>nm' (fQ' v6 rfl (⟨x0,x1⟩,x2))
theorem a9g:OkC Tryz.prog 225 v6:=a5m _
@[go_sem] def b0w:ACode:=q' 2 [ao (.box 2 (.t 0)),ab 4 false] (q' 5 [am 1,ao (.bin .eql (.t 5) (.k (.v false [.c (.s [112,97,99,107,101,116])]))),am 6,au (.ld true 2 (.t 2)) 7
 false,au (.mov (.t 1)) 7 false,au (.call 225 [.t 8,.t 9]) 7 false,au (.bin .eql (.t 10) (k' 2)) 7 false,ao (.pick (.t 7) (bb true) (.t 11)),aV 4] .ret)
theorem b3L (p:c4) (name:List UInt8):Z9 Tryz.prog 463 [(true,[.sl false [.i .i64 0,.s [],.i .i64 0] (p.Decls.map d7.cells),.sl false [.i .i64 0,.s [],.sl false [.s [],.i .i64 0,.s []] [],.sl false [.i .i64 0,.s [],.sl false [.s [],.i .i64 0,.s []] [],.i .i64 0,.s [],.i .i64 0,.s [],.s [],.i .i64 0,.s []] []] (p.Rules.map (c6.cells false false))]),(false,[.s name])] [] (.one (false,[.b (movB p name)])):=by
 refine sx' false false none Tryz.func463 b0w [.t 4] [(225,[],v6)] ?_
 intro hb hE
 simp only [go_sem];(repeat' first | apply CJ.mk | intro hc);all_goals try exact om'
 all_goals (first | rfl)
noncomputable def a1M:CT:=i3 (fun (x:c4×(List UInt8))=>b3L x.1 x.2)
@[go_sem] def c2O:=fun x0 x1 x2=>nm' (fQ' a1M rfl (⟨x0,x1⟩,x2))
@[go_sem] def b0t:ACode:=q' 1 [ao (.box 4 (.t 0)),ao (.mov (.k (.v false [.nl [.s [],.sl false [.s [],.i .i64 0,.s []] []]])))] (q' 6 [af 1 1,aE 2,ao (.bsl 2 1 [.s,.sl [.s [],.i
 .i64 0,.s []]] [(0,.t 7)]),aV 3] (.seq (q' 9 [aG 3 1,aN,aK 0] (.block 0 (.loop (q' 13 [ar 12 11] (.seq (.cond (.t 13) .skip (.exit 0)) (.seq (.block 1 (q'
 14 [ai 10 10 12,aE 10,ax (w' 5 [.i .i64,.s,.sl [.s [],.i .i64 0,.s []],.i .i64,.s,.i .i64,.s,.s,.i .i64,.s]),aS 10 5 15] (q' 16 [aG 0 5,ao (.bin
 .neq (.t 17) (k' 3))] (.cond (.t 18) (g' 19 [am 3,af 1 5,aE 2,ao (.bsl 2 1 [.s,.sl [.s [],.i .i64 0,.s []]] [(0,.t 21)]),ao (.app 2 40 [.s,.sl [.s [],.i
 .i64 0,.s []]] (.t 19) (.t 22)),aV 3]) .skip)))) (g' 24 [aA 12]))))))) (q' 25 [am 3,aV 2] .ret)))
theorem b3I (r:c6) (hpre:r.Body.length≤8):Z9 Tryz.prog 439 [(true,[.i .i64 r.Kind,.s r.Head.Name,.sl false [.s [],.i .i64 0,.s []] (r.Head.Args.map c8.cells),.sl false [.i .i64 0,.s [],.sl false [.s [],.i .i64 0,.s []] [],.i .i64 0,.s [],.i .i64 0,.s [],.s [],.i .i64 0,.s []] (r.Body.map (d5.cells false false))])] [] (.one (false,[.sl true [.s [],.sl false [.s [],.i .i64 0,.s []] []] ((m8 r).map (f5.cells false false))])):=by
 refine sx' false false none Tryz.func439 b0t [.t 2] [] ?_
 intro hb hE
 simp only [go_sem];(repeat' first | apply CJ.mk | intro hc);all_goals try exact om'
 refine lk' false [(false,3,0,100006)] [10,11] [] [] (fun i:{i:Nat // i≤r.Body.length}=>[(3,.v false [.ow 100006]),(12,slV (.i .i64 i.1))]) nl' (fun i=>[(100006,[.s [],.sl false [.s [],.i .i64 0,.s []] []],(r.Head::((r.Body.take i.1).filter atB).map d5.Atom).map (f5.cells false false))]) (fun i=>r.Body.length - i.1) (⟨0,by simp⟩) ?_
 intro S0 hS0 i
 obtain ⟨i,hi⟩:=i
 simp only [go_sem,hS0];(repeat' first | apply CJ.mk | intro hc);all_goals try exact om'
 ·have:=a9q atB d5.Atom (r.Body.take i);simp at this;omega
 ·have hp:atB (r.Body.getD i default)=true:=hc
  (refine lpK_n2 (⟨i+1,by omega⟩) _ (by simp only [go_sem];try rfl) ?_;simp only [go_sem,hS0];first | done | ((repeat' apply And.intro)<;>try exact on'))
  all_goals (rw [a6J d5.Atom default (by omega) hp]<;>rfl)
 ·have hp:atB (r.Body.getD i default)=false:=hc
  (refine lpK_n2 (⟨i+1,by omega⟩) _ (by simp only [go_sem];try rfl) ?_;simp only [go_sem,hS0];first | done | ((repeat' apply And.intro)<;>try exact on'))
  all_goals (rw [b3s d5.Atom default (by omega) hp]<;>rfl)
 ·rw [f9 (by omega),b2W];rfl
noncomputable def a1J:CT:=l5 (fun (x:c6) h=>b3I x h)
@[go_sem] def c2L:=fun x0 x1 x2 x3=>nm' (fP' a1J rfl ⟨x0,⟨x1,x2⟩,x3⟩)
theorem a7x:OkC Tryz.prog 439 a1J:=c3E _
@[go_sem] def a9a:ACode:=q' 2 [ao (.box 2 (.t 0)),az 4 0] (.seq (q' 6 [am 1,ao (.bin .eql (.t 6) (.k (.v false [.c (.s [112,97,99,107,101,116])])))] (.cond (.t 7) (q' 4 [aK 4]
 .ret) .skip)) (.seq (q' 8 [am 1,ao (.bin .eql (.t 8) (.k (.v false [.c (.s [102,111,114,119,97,114,100])])))] (.cond (.t 9) (q' 4 [aK 1] .ret) .skip))
 (q' 10 [ae 2 2,am 1,ac 116 [10,11],ax (w' 5 [.i .i64,.s,.i .i64]),aS 3 5 12] (.seq (q' 13 [aG 0 5,ao (.bin .eql (.t 14) (k' 0))] (.cond (.t 15) (q' 4 [ao
 (.mov (.k (.v false [.c (.i .i64 (-1))])))] .ret) .skip)) (q' 16 [aG 2 5,aV 4] .ret)))))
theorem b1L (p:c4) (name:List UInt8) (hpre:m9 p=true):Z9 Tryz.prog 381 [(true,[.sl false [.i .i64 0,.s [],.i .i64 0] (p.Decls.map d7.cells),.sl false [.i .i64 0,.s [],.sl false [.s [],.i .i64 0,.s []] [],.sl false [.i .i64 0,.s [],.sl false [.s [],.i .i64 0,.s []] [],.i .i64 0,.s [],.i .i64 0,.s [],.s [],.i .i64 0,.s []] []] (p.Rules.map (c6.cells false false))]),(false,[.s name])] [] (.one (false,[.i .i64 (a1y p name)])):=by
 refine sx' false false none Tryz.func381 a9a [.t 4] [(116,[],y7)] ?_
 intro hb hE
 simp only [go_sem];(repeat' first | apply CJ.mk | intro hc);all_goals try exact om'
 ·simp only [a1y,pkB,fwB, *,cond_true,cond_false]
 ·simp only [a1y,pkB,fwB, *,cond_true,cond_false]
 all_goals rw [b7O hpre] at hc
 ·rw [Bool.not_eq_true'] at hc
  simp only [a1y,pkB,fwB, *,cond_true,cond_false]
 ·rw [Bool.not_eq_false'] at hc
  simp only [a1y,pkB,fwB, *,cond_true,cond_false]
noncomputable def a3V:CT:=l5 (fun (x:c4×(List UInt8)) h=>b1L x.1 x.2 h)
@[go_sem] def c1V:=fun x0 x1 x2=>nm' (fP' a3V rfl (⟨x0,x1⟩,x2))
@[go_sem] def a7j:ACode:=q' 2 [ao (.box 2 (.t 0)),ab 4 false] (q' 5 [am 1,ao (.bin .eql (.t 5) (.k (.v false [.c (.s [112,97,99,107,101,116])]))),am 6,au (.ld true 2 (.t 2)) 7
 false,au (.mov (.t 1)) 7 false,au (.call 116 [.t 8,.t 9]) 7 false,au (.fl false 0 1 (.t 10)) 7 false,au (.bin .eql (.t 11) (k' 2)) 7 false,ao (.pick (.t 7)
 (bb true) (.t 12)),aV 4] .ret)
theorem a9K (p:c4) (name:List UInt8):Z9 Tryz.prog 382 [(true,[.sl false [.i .i64 0,.s [],.i .i64 0] (p.Decls.map d7.cells),.sl false [.i .i64 0,.s [],.sl false [.s [],.i .i64 0,.s []] [],.sl false [.i .i64 0,.s [],.sl false [.s [],.i .i64 0,.s []] [],.i .i64 0,.s [],.i .i64 0,.s [],.s [],.i .i64 0,.s []] []] (p.Rules.map (c6.cells false false))]),(false,[.s name])] [] (.one (false,[.b (movB p name)])):=by
 refine sx' false false none Tryz.func382 a7j [.t 4] [(116,[],y7)] ?_
 intro hb hE
 simp only [go_sem];(repeat' first | apply CJ.mk | intro hc);all_goals try exact om'
 all_goals (first | rfl)
noncomputable def a2W:CT:=i3 (fun (x:c4×(List UInt8))=>a9K x.1 x.2)
@[go_sem] def c0S:=fun x0 x1 x2=>nm' (fQ' a2W rfl (⟨x0,x1⟩,x2))
@[go_sem] def a9b:ACode:=q' 1 [ao (.box 4 (.t 0)),ao (.mov (.k (.v false [.nl [.s [],.sl false [.s [],.i .i64 0,.s []] []]])))] (q' 5 [af 1 1,aE 2,ao (.bsl 2 1 [.s,.sl [.s [],.i
 .i64 0,.s []]] [(0,.t 6)]),aV 3] (.seq (q' 8 [aG 3 1,aN,aK 0] (.block 0 (.loop (q' 12 [ar 11 10] (.seq (.cond (.t 12) .skip (.exit 0)) (.seq (.block 1 (q'
 13 [am 11,aV 4] (q' 14 [aG 3 1,am 4,aI 10,aG 0 17,ao (.bin .neq (.t 19) (k' 3))] (.cond (.t 20) (g' 21 [am 3,aG 3 1,am 4,aI 10,aF 1,aE 2,ao (.bsl 2 1 [.s,.sl
 [.s [],.i .i64 0,.s []]] [(0,.t 27)]),ao (.app 2 40 [.s,.sl [.s [],.i .i64 0,.s []]] (.t 21) (.t 28)),aV 3]) .skip)))) (g' 30 [aA 11]))))))) (q' 31 [am
 3,aV 2] .ret)))
theorem b1M (r:c6) (hpre:r.Body.length≤8):Z9 Tryz.prog 291 [(true,[.i .i64 r.Kind,.s r.Head.Name,.sl false [.s [],.i .i64 0,.s []] (r.Head.Args.map c8.cells),.sl false [.i .i64 0,.s [],.sl false [.s [],.i .i64 0,.s []] [],.i .i64 0,.s [],.i .i64 0,.s [],.s [],.i .i64 0,.s []] (r.Body.map (d5.cells false false))])] [] (.one (false,[.sl true [.s [],.sl false [.s [],.i .i64 0,.s []] []] ((m8 r).map (f5.cells false false))])):=by
 refine sx' false false none Tryz.func291 a9b [.t 2] [] ?_
 intro hb hE
 simp only [go_sem];(repeat' first | apply CJ.mk | intro hc);all_goals try exact om'
 refine lk' false [(false,3,0,100006)] [1,10] [2] [] (fun i:{i:Nat // i≤r.Body.length}=>[(3,.v false [.ow 100006]),(11,slV (.i .i64 i.1))]) nl' (fun i=>[(100006,[.s [],.sl false [.s [],.i .i64 0,.s []] []],(r.Head::((r.Body.take i.1).filter atB).map d5.Atom).map (f5.cells false false))]) (fun i=>r.Body.length - i.1) (⟨0,by simp⟩) ?_
 intro S0 hS0 i
 obtain ⟨i,hi⟩:=i
 simp only [go_sem,hS0];(repeat' first | apply CJ.mk | intro hc);all_goals try exact om'
 ·have:=a9q atB d5.Atom (r.Body.take i);simp at this;omega
 ·have hp:atB (r.Body.getD i default)=true:=hc
  (refine lpK_n2 (⟨i+1,by omega⟩) _ (by simp only [go_sem];try rfl) ?_;simp only [go_sem,hS0];first | done | ((repeat' apply And.intro)<;>try exact on'))
  all_goals (rw [a6J d5.Atom default (by omega) hp]<;>rfl)
 ·have hp:atB (r.Body.getD i default)=false:=hc
  (refine lpK_n2 (⟨i+1,by omega⟩) _ (by simp only [go_sem];try rfl) ?_;simp only [go_sem,hS0];first | done | ((repeat' apply And.intro)<;>try exact on'))
  all_goals (rw [b3s d5.Atom default (by omega) hp]<;>rfl)
 ·rw [f9 (by omega),b2W];rfl
noncomputable def a3W:CT:=l5 (fun (x:c6) h=>b1M x h)
@[go_sem] def c1W:=fun x0 x1 x2 x3=>nm' (fP' a3W rfl ⟨x0,⟨x1,x2⟩,x3⟩)
theorem b9L {p:c4} (h:m9 p=true) {r:c6} (hr:r∈p.Rules):r.Body.length≤8:=by
 simp only [m9,Bool.and_eq_true,List.all_eq_true] at h
 have:=h.2 r hr
 simp only [i9,Bool.and_eq_true,decide_eq_true_eq] at this
 omega
@[go_sem] def a4a:ACode:=q' 0 [ax (o' 2 (.box 10 (.t 0))),ab 3 false] (q' 4 [aG 0 2,ao (.bin .neq (.t 5) (k' 3)),am 6,au (.ld true 2 (.t 1)) 7 true,au (.fa 1 (.t 2)) 7 true,au (.fa 0
 (.t 9)) 7 true,au (.ld false 1 (.t 10)) 7 true,au (.call 463 [.t 8,.t 11]) 7 true,ao (.pick (.t 7) (.t 12) (bb false)),aV 3] .ret)
theorem a5d (l:d5) (p:c4):Z9 Tryz.prog 464 [(true,[.i .i64 l.Kind,.s l.Atom.Name,.sl false [.s [],.i .i64 0,.s []] (l.Atom.Args.map c8.cells),.i .i64 l.Op,.s l.A.Var,.i .i64 l.A.Val.N,.s l.A.Val.S,.s l.B.Var,.i .i64 l.B.Val.N,.s l.B.Val.S]),(false,[.p [.sl false [.i .i64 0,.s [],.i .i64 0] (p.Decls.map d7.cells),.sl false [.i .i64 0,.s [],.sl false [.s [],.i .i64 0,.s []] [],.sl false [.i .i64 0,.s [],.sl false [.s [],.i .i64 0,.s []] [],.i .i64 0,.s [],.i .i64 0,.s [],.s [],.i .i64 0,.s []] []] (p.Rules.map (c6.cells false false))]])] [] (.one (false,[.b (a5D p l)])):=by
 refine sx' false false none Tryz.func464 a4a [.t 3] [(463,[],a1M)] ?_
 intro hb hE
 simp only [go_sem];(repeat' first | apply CJ.mk | intro hc);all_goals try exact om'
 all_goals (first | rfl)
noncomputable def a1g:CT:=i3 (fun (x:d5×c4)=>a5d x.1 x.2)
@[go_sem] def b6N:=fun x0 x1 x2 x3 x4 x5 x6 x7 x8 x9 x10 x11=>nm' (fQ' a1g rfl (⟨x0,⟨x1,x2⟩,x3,⟨x4,⟨x5,x6⟩⟩,⟨x7,⟨x8,x9⟩⟩⟩,⟨x10,x11⟩))
theorem b7V (l:List d5) (p:c4):Z9 Tryz.prog 267 [(false,[.sl false [.i .i64 0,.s [],.sl false [.s [],.i .i64 0,.s []] [],.i .i64 0,.s [],.i .i64 0,.s [],.s [],.i .i64 0,.s []] (l.map (d5.cells false false))]),(false,[.f 464 [.p [.sl false [.i .i64 0,.s [],.i .i64 0] (p.Decls.map d7.cells),.sl false [.i .i64 0,.s [],.sl false [.s [],.i .i64 0,.s []] [],.sl false [.i .i64 0,.s [],.sl false [.s [],.i .i64 0,.s []] [],.i .i64 0,.s [],.i .i64 0,.s [],.s [],.i .i64 0,.s []] []] (p.Rules.map (c6.cells false false))]]])] [] (.one (false,[.i .i64 (a0H (fun y=>a5D p y) l)])):=by
 refine sx' false false none Tryz.func267 b6D [.t 4] [(464,[],a1g)] ?_
 intro hb hE
 simp only [go_sem];(repeat' first | apply CJ.mk | intro hc);all_goals try exact om'
 refine lq' false [0,1,7] [] [] (fun i:{i:Nat // i≤l.length∧(l.take i).any (fun y=>a5D p y)=false}=>[(8,slV (.i .i64 i.1))]) nl' nl' (fun i=>l.length - i.1) (⟨0,by simp⟩) ?_
 intro S0 hS0 i
 obtain ⟨i,hi,ha⟩:=i
 simp only [go_sem,hS0];(repeat' first | apply CJ.mk | intro hc);all_goals try exact om'
 ·exact (o0 (p:=fun y=>a5D p y) (d:=default) (by omega) ha (by simpa [-List.getD_eq_getElem?_getD] using hc)).symm
 ·exact nx0 ⟨i+1,by omega,j5 (p:=fun y=>a5D p y) default (by omega) ha (by simpa [-List.getD_eq_getElem?_getD] using hc)⟩
 ·exact (n9 (by rwa [f9 (by omega)] at ha)).symm
noncomputable def a7r:CT:=i3 (fun (x:(List d5)×c4)=>b7V x.1 x.2)
@[go_sem] def c6b:=fun l x0 x1=>nm' (fQ' a7r rfl (l,⟨x0,x1⟩))
theorem b7S (l:List d5) (p:c4):Z9 Tryz.prog 151 [(false,[.sl false [.i .i64 0,.s [],.sl false [.s [],.i .i64 0,.s []] [],.i .i64 0,.s [],.i .i64 0,.s [],.s [],.i .i64 0,.s []] (l.map (d5.cells false false))]),(false,[.f 464 [.p [.sl false [.i .i64 0,.s [],.i .i64 0] (p.Decls.map d7.cells),.sl false [.i .i64 0,.s [],.sl false [.s [],.i .i64 0,.s []] [],.sl false [.i .i64 0,.s [],.sl false [.s [],.i .i64 0,.s []] [],.i .i64 0,.s [],.i .i64 0,.s [],.s [],.i .i64 0,.s []] []] (p.Rules.map (c6.cells false false))]]])] [] (.one (false,[.b (l.any (fun y=>a5D p y))])):=by
 refine sx' false false none Tryz.func151 b6C [.t 4] [(267,[],a7r)] ?_
 intro hb hE
 simp only [go_sem];(repeat' first | apply CJ.mk | intro hc);all_goals try exact om'
 ·exact z6 _ _
noncomputable def a7o:CT:=i3 (fun (x:(List d5)×c4)=>b7S x.1 x.2)
@[go_sem] def c5Y:=fun l x0 x1=>nm' (fQ' a7o rfl (l,⟨x0,x1⟩))
@[go_sem] def a5z:ACode:=q' 2 [ao (.box 2 (.t 0)),ao (.box 4 (.t 1)),ao (.mov (bb false))] (q' 7 [aG 3 3,aV 5] (.seq (q' 9 [aG 0 3,ao (.bin .neq (.t 10) (k' 1)),am 11,au (.fa 1 (.t 3))
 12 false,au (.fa 0 (.t 13)) 12 false,au (.ld false 1 (.t 14)) 12 false,au (.bin .eql (.t 15) (.k (.v false [.c (.s [102,111,114,119,97,114,100])]))) 12
 false,ao (.pick (.t 12) (bb true) (.t 16))] (.cond (.t 17) (.seq (q' 18 [am 5,aN,ao (.bin .eql (.t 19) (k' 0)),am 20,au (.mov (.t 5)) 21 false,au (.ia 10 (.t
 22) (k' 0)) 21 false,au (.fa 0 (.t 23)) 21 false,au (.ld false 1 (.t 24)) 21 false,au (.bin .neq (.t 25) (k' 1)) 21 false,ao (.pick (.t 21) (bb true) (.t
 26))] (.cond (.t 27) (q' 0 [ab 4 false] .ret) .skip)) (q' 28 [am 5,ao (.ia 10 (.t 28) (k' 0)),aF 1,aG 0 30,aV 6] (.seq (q' 33 [am 6,ao (.bin .neq (.t 33) (.k
 (.v false [.c (.s [112,97,99,107,101,116])]))),am 34,au (.fa 0 (.t 3)) 35 true,au (.ld false 1 (.t 36)) 35 true,au (.bin .eql (.t 37) (k' 1)) 35 true,au
 (.mov (.t 38)) 35 true,au (.ld true 2 (.t 2)) 39 false,au (.mov (.t 6)) 39 false,au (.call 463 [.t 40,.t 41]) 39 false,au (.not (.t 42)) 39 false,au (.pick
 (.t 39) (bb true) (.t 43)) 35 true,ao (.pick (.t 35) (.t 44) (bb false))] (.cond (.t 45) (q' 0 [ab 4 false] .ret) .skip)) (g' 46 [am 5,ao (.slc 10 (.t 46)
 (some (k' 1)) none none),aV 5])))) .skip)) (q' 48 [am 5,ao (.mf 464 [.t 2]),ac 151 [48,49],ao (.not (.t 50)),aV 4] .ret)))
theorem a6M (p:c4) (r:c6):Z9 Tryz.prog 444 [(true,[.sl false [.i .i64 0,.s [],.i .i64 0] (p.Decls.map d7.cells),.sl false [.i .i64 0,.s [],.sl false [.s [],.i .i64 0,.s []] [],.sl false [.i .i64 0,.s [],.sl false [.s [],.i .i64 0,.s []] [],.i .i64 0,.s [],.i .i64 0,.s [],.s [],.i .i64 0,.s []] []] (p.Rules.map (c6.cells false false))]),(true,[.i .i64 r.Kind,.s r.Head.Name,.sl false [.s [],.i .i64 0,.s []] (r.Head.Args.map c8.cells),.sl false [.i .i64 0,.s [],.sl false [.s [],.i .i64 0,.s []] [],.i .i64 0,.s [],.i .i64 0,.s [],.s [],.i .i64 0,.s []] (r.Body.map (d5.cells false false))])] [] (.one (false,[.b (b1o p r)])):=by
 refine sx' false false none Tryz.func444 a5z [.t 4] [(463,[],a1M),(151,[],a7o)] ?_
 intro hb hE
 simp only [go_sem];(repeat' first | apply CJ.mk | intro hc);all_goals try exact om'
 all_goals (try simp only [a0a] at *)
 all_goals (clear hb)
 all_goals (first | (simp at hc;omega) | grind [b1o,b9K,pkB,fwB,movB])
noncomputable def a0q:CT:=i3 (fun (x:c4×c6)=>a6M x.1 x.2)
@[go_sem] def b8J:=fun x0 x1 x2 x3 x4 x5=>nm' (fQ' a0q rfl (⟨x0,x1⟩,⟨x2,⟨x3,x4⟩,x5⟩))
theorem a4b:OkC Tryz.prog 444 a0q:=a5m _
@[go_sem] def a6w:ACode:=q' 0 [ax (o' 2 (.box 2 (.t 0))),ab 3 false] (q' 4 [ae 2 1,aG 0 2,ac 243 [4,6],ao (.bin .lss (.t 7) (k' 0)),aV 3] .ret)
theorem a8b (a:f5) (p:c4):Z9 Tryz.prog 441 [(true,[.s a.Name,.sl false [.s [],.i .i64 0,.s []] (a.Args.map c8.cells)]),(false,[.p [.sl false [.i .i64 0,.s [],.i .i64 0] (p.Decls.map d7.cells),.sl false [.i .i64 0,.s [],.sl false [.s [],.i .i64 0,.s []] [],.sl false [.i .i64 0,.s [],.sl false [.s [],.i .i64 0,.s []] [],.i .i64 0,.s [],.i .i64 0,.s [],.s [],.i .i64 0,.s []] []] (p.Rules.map (c6.cells false false))]])] [] (.one (false,[.b (a2I p a)])):=by
 refine sx' false false none Tryz.func441 a6w [.t 3] [(243,[],a1I)] ?_
 intro hb hE
 simp only [go_sem];(repeat' first | apply CJ.mk | intro hc);all_goals try exact om'
 all_goals (first | rfl)
noncomputable def a2b:CT:=i3 (fun (x:f5×c4)=>a8b x.1 x.2)
@[go_sem] def b9n:=fun x0 x1 x2 x3=>nm' (fQ' a2b rfl (⟨x0,x1⟩,⟨x2,x3⟩))
@[go_sem] def a6x:ACode:=q' 0 [ax (o' 2 (.box 2 (.t 0))),ab 3 false] (.seq (G' 4 [ae 2 1,aG 0 2,ac 243 [4,6],aG 1 2,aN,ao (.bin .neq (.t 7) (.t 10)),aV 3]) .ret)
theorem a8c (a:f5) (p:c4):Z9 Tryz.prog 442 [(true,[.s a.Name,.sl false [.s [],.i .i64 0,.s []] (a.Args.map c8.cells)]),(false,[.p [.sl false [.i .i64 0,.s [],.i .i64 0] (p.Decls.map d7.cells),.sl false [.i .i64 0,.s [],.sl false [.s [],.i .i64 0,.s []] [],.sl false [.i .i64 0,.s [],.sl false [.s [],.i .i64 0,.s []] [],.i .i64 0,.s [],.i .i64 0,.s [],.s [],.i .i64 0,.s []] []] (p.Rules.map (c6.cells false false))]])] [] (.one (false,[.b (a2J p a)])):=by
 refine sx' false false none Tryz.func442 a6x [.t 3] [(243,[],a1I)] ?_
 intro hb hE
 simp only [go_sem];(repeat' first | apply CJ.mk | intro hc);all_goals try exact om'
 all_goals (first | rfl)
noncomputable def a2c:CT:=i3 (fun (x:f5×c4)=>a8c x.1 x.2)
@[go_sem] def b9o:=fun x0 x1 x2 x3=>nm' (fQ' a2c rfl (⟨x0,x1⟩,⟨x2,x3⟩))
@[go_sem] def a6y:ACode:=q' 0 [ax (o' 1 (.box 2 (.t 0))),ab 2 false] (q' 3 [aG 0 1,ao (.bin .eql (.t 4) (.k (.v false [.c (.s [102,111,114,119,97,114,100])]))),aV 2] .ret)
theorem a8d (a:f5):Z9 Tryz.prog 443 [(true,[.s a.Name,.sl false [.s [],.i .i64 0,.s []] (a.Args.map c8.cells)])] [] (.one (false,[.b (b1p a)])):=by
 refine sx' false false none Tryz.func443 a6y [.t 2] [] ?_
 intro hb hE
 simp only [go_sem];(repeat' first | apply CJ.mk | intro hc);all_goals try exact om'
 all_goals (first | rfl)
noncomputable def a2d:CT:=i3 (fun (x:f5)=>a8d x)
@[go_sem] def b9p:=fun x0 x1=>nm' (fQ' a2d rfl ⟨x0,x1⟩)
@[go_sem] def a6q:ACode:=q' 4 [aK 0] (.seq (q' 6 [am 0,aN,aK 0] (.block 0 (.loop (q' 9 [ar 8 7] (.seq (.cond (.t 9) .skip (.exit 0)) (.seq (.block 1 (q' 10 [am 8,aV 5] (q' 11 [aM
 [1,0,5],aI 2,aE 2,ao (.callv (.t 11) [.t 15])] (.cond (.t 16) (q' 17 [am 5,aV 4] .ret) .skip)))) (g' 18 [aA 8]))))))) (q' 4 [ao (.mov (.k (.v false [.c (.i
 .i64 (-1))])))] .ret))
theorem b9U (l:List f5) (p:c4):Z9 Tryz.prog 462 [(false,[.sl false [.s [],.sl false [.s [],.i .i64 0,.s []] []] (l.map (f5.cells false false))]),(false,[.f 441 [.p [.sl false [.i .i64 0,.s [],.i .i64 0] (p.Decls.map d7.cells),.sl false [.i .i64 0,.s [],.sl false [.s [],.i .i64 0,.s []] [],.sl false [.i .i64 0,.s [],.sl false [.s [],.i .i64 0,.s []] [],.i .i64 0,.s [],.i .i64 0,.s [],.s [],.i .i64 0,.s []] []] (p.Rules.map (c6.cells false false))]]])] [] (.one (false,[.i .i64 (a0H (fun y=>a2I p y) l)])):=by
 refine sx' false false none Tryz.func462 a6q [.t 4] [(441,[],a2b)] ?_
 intro hb hE
 simp only [go_sem];(repeat' first | apply CJ.mk | intro hc);all_goals try exact om'
 refine lq' false [0,1,7] [] [] (fun i:{i:Nat // i≤l.length∧(l.take i).any (fun y=>a2I p y)=false}=>[(8,slV (.i .i64 i.1))]) nl' nl' (fun i=>l.length - i.1) (⟨0,by simp⟩) ?_
 intro S0 hS0 i
 obtain ⟨i,hi,ha⟩:=i
 simp only [go_sem,hS0];(repeat' first | apply CJ.mk | intro hc);all_goals try exact om'
 ·exact (o0 (p:=fun y=>a2I p y) (d:=default) (by omega) ha (by simpa [-List.getD_eq_getElem?_getD] using hc)).symm
 ·exact nx0 ⟨i+1,by omega,j5 (p:=fun y=>a2I p y) default (by omega) ha (by simpa [-List.getD_eq_getElem?_getD] using hc)⟩
 ·exact (n9 (by rwa [f9 (by omega)] at ha)).symm
noncomputable def a9W:CT:=i3 (fun (x:(List f5)×c4)=>b9U x.1 x.2)
@[go_sem] def c7p:=fun l x0 x1=>nm' (fQ' a9W rfl (l,⟨x0,x1⟩))
@[go_sem] def a6p:ACode:=q' 0 [ab 4 false] (q' 5 [aM [0,1],ac 462 [5,6],ao (.bin .geq (.t 7) (k' 0)),aV 4] .ret)
theorem b9Q (l:List f5) (p:c4):Z9 Tryz.prog 440 [(false,[.sl false [.s [],.sl false [.s [],.i .i64 0,.s []] []] (l.map (f5.cells false false))]),(false,[.f 441 [.p [.sl false [.i .i64 0,.s [],.i .i64 0] (p.Decls.map d7.cells),.sl false [.i .i64 0,.s [],.sl false [.s [],.i .i64 0,.s []] [],.sl false [.i .i64 0,.s [],.sl false [.s [],.i .i64 0,.s []] [],.i .i64 0,.s [],.i .i64 0,.s [],.s [],.i .i64 0,.s []] []] (p.Rules.map (c6.cells false false))]]])] [] (.one (false,[.b (l.any (fun y=>a2I p y))])):=by
 refine sx' false false none Tryz.func440 a6p [.t 4] [(462,[],a9W)] ?_
 intro hb hE
 simp only [go_sem];(repeat' first | apply CJ.mk | intro hc);all_goals try exact om'
 ·exact z6 _ _
noncomputable def a4k:CT:=i3 (fun (x:(List f5)×c4)=>b9Q x.1 x.2)
@[go_sem] def b3c:=fun l x0 x1=>nm' (fQ' a4k rfl (l,⟨x0,x1⟩))
theorem b3d:OkC Tryz.prog 440 a4k:=a5m _
theorem b9V (l:List f5) (p:c4):Z9 Tryz.prog 462 [(false,[.sl false [.s [],.sl false [.s [],.i .i64 0,.s []] []] (l.map (f5.cells false false))]),(false,[.f 442 [.p [.sl false [.i .i64 0,.s [],.i .i64 0] (p.Decls.map d7.cells),.sl false [.i .i64 0,.s [],.sl false [.s [],.i .i64 0,.s []] [],.sl false [.i .i64 0,.s [],.sl false [.s [],.i .i64 0,.s []] [],.i .i64 0,.s [],.i .i64 0,.s [],.s [],.i .i64 0,.s []] []] (p.Rules.map (c6.cells false false))]]])] [] (.one (false,[.i .i64 (a0H (fun y=>a2J p y) l)])):=by
 refine sx' false false none Tryz.func462 a6q [.t 4] [(442,[],a2c)] ?_
 intro hb hE
 simp only [go_sem];(repeat' first | apply CJ.mk | intro hc);all_goals try exact om'
 refine lq' false [0,1,7] [] [] (fun i:{i:Nat // i≤l.length∧(l.take i).any (fun y=>a2J p y)=false}=>[(8,slV (.i .i64 i.1))]) nl' nl' (fun i=>l.length - i.1) (⟨0,by simp⟩) ?_
 intro S0 hS0 i
 obtain ⟨i,hi,ha⟩:=i
 simp only [go_sem,hS0];(repeat' first | apply CJ.mk | intro hc);all_goals try exact om'
 ·exact (o0 (p:=fun y=>a2J p y) (d:=default) (by omega) ha (by simpa [-List.getD_eq_getElem?_getD] using hc)).symm
 ·exact nx0 ⟨i+1,by omega,j5 (p:=fun y=>a2J p y) default (by omega) ha (by simpa [-List.getD_eq_getElem?_getD] using hc)⟩
 ·exact (n9 (by rwa [f9 (by omega)] at ha)).symm
noncomputable def a9X:CT:=i3 (fun (x:(List f5)×c4)=>b9V x.1 x.2)
@[go_sem] def c7q:=fun l x0 x1=>nm' (fQ' a9X rfl (l,⟨x0,x1⟩))
theorem b9R (l:List f5) (p:c4):Z9 Tryz.prog 440 [(false,[.sl false [.s [],.sl false [.s [],.i .i64 0,.s []] []] (l.map (f5.cells false false))]),(false,[.f 442 [.p [.sl false [.i .i64 0,.s [],.i .i64 0] (p.Decls.map d7.cells),.sl false [.i .i64 0,.s [],.sl false [.s [],.i .i64 0,.s []] [],.sl false [.i .i64 0,.s [],.sl false [.s [],.i .i64 0,.s []] [],.i .i64 0,.s [],.i .i64 0,.s [],.s [],.i .i64 0,.s []] []] (p.Rules.map (c6.cells false false))]]])] [] (.one (false,[.b (l.any (fun y=>a2J p y))])):=by
 refine sx' false false none Tryz.func440 a6p [.t 4] [(462,[],a9X)] ?_
 intro hb hE
 simp only [go_sem];(repeat' first | apply CJ.mk | intro hc);all_goals try exact om'
 ·exact z6 _ _
noncomputable def a4l:CT:=i3 (fun (x:(List f5)×c4)=>b9R x.1 x.2)
@[go_sem] def b3e:=fun l x0 x1=>nm' (fQ' a4l rfl (l,⟨x0,x1⟩))
theorem b3f:OkC Tryz.prog 440 a4l:=a5m _
theorem b9W (l:List f5):Z9 Tryz.prog 462 [(false,[.sl false [.s [],.sl false [.s [],.i .i64 0,.s []] []] (l.map (f5.cells false false))]),(false,[.f 443 []])] [] (.one (false,[.i .i64 (a0H (fun y=>b1p y) l)])):=by
 refine sx' false false none Tryz.func462 a6q [.t 4] [(443,[],a2d)] ?_
 intro hb hE
 simp only [go_sem];(repeat' first | apply CJ.mk | intro hc);all_goals try exact om'
 refine lq' false [0,1,7] [] [] (fun i:{i:Nat // i≤l.length∧(l.take i).any (fun y=>b1p y)=false}=>[(8,slV (.i .i64 i.1))]) nl' nl' (fun i=>l.length - i.1) (⟨0,by simp⟩) ?_
 intro S0 hS0 i
 obtain ⟨i,hi,ha⟩:=i
 simp only [go_sem,hS0];(repeat' first | apply CJ.mk | intro hc);all_goals try exact om'
 ·exact (o0 (p:=fun y=>b1p y) (d:=default) (by omega) ha (by simpa [-List.getD_eq_getElem?_getD] using hc)).symm
 ·exact nx0 ⟨i+1,by omega,j5 (p:=fun y=>b1p y) default (by omega) ha (by simpa [-List.getD_eq_getElem?_getD] using hc)⟩
 ·exact (n9 (by rwa [f9 (by omega)] at ha)).symm
noncomputable def a9Y:CT:=i3 (fun (x:(List f5))=>b9W x)
@[go_sem] def c7r:=fun l=>nm' (fQ' a9Y rfl l)
theorem b9S (l:List f5):Z9 Tryz.prog 440 [(false,[.sl false [.s [],.sl false [.s [],.i .i64 0,.s []] []] (l.map (f5.cells false false))]),(false,[.f 443 []])] [] (.one (false,[.b (l.any (fun y=>b1p y))])):=by
 refine sx' false false none Tryz.func440 a6p [.t 4] [(462,[],a9Y)] ?_
 intro hb hE
 simp only [go_sem];(repeat' first | apply CJ.mk | intro hc);all_goals try exact om'
 ·exact z6 _ _
noncomputable def a4m:CT:=i3 (fun (x:(List f5))=>b9S x)
@[go_sem] def b3g:=fun l=>nm' (fQ' a4m rfl l)
theorem b3h:OkC Tryz.prog 440 a4m:=a5m _
noncomputable def t8:CT:=(ctO a4k (ctO a4l a4m))
@[go_sem] theorem b8K (l:List f5) (x0:List d7) (x1:List c6):t8 [(false,[.sl false [.s [],.sl false [.s [],.i .i64 0,.s []] []] (l.map (f5.cells false false))]),(false,[.f 441 [.p [.sl false [.i .i64 0,.s [],.i .i64 0] (x0.map d7.cells),.sl false [.i .i64 0,.s [],.sl false [.s [],.i .i64 0,.s []] [],.sl false [.i .i64 0,.s [],.sl false [.s [],.i .i64 0,.s []] [],.i .i64 0,.s [],.i .i64 0,.s [],.s [],.i .i64 0,.s []] []] (x1.map (c6.cells false false))]]])]=some (True,[],.one (false,[.b (l.any (fun y=>a2I (c4.mk x0 x1) y))])):=b9y (b3c l x0 x1)
@[go_sem] theorem b8L (l:List f5) (x0:List d7) (x1:List c6):t8 [(false,[.sl false [.s [],.sl false [.s [],.i .i64 0,.s []] []] (l.map (f5.cells false false))]),(false,[.f 442 [.p [.sl false [.i .i64 0,.s [],.i .i64 0] (x0.map d7.cells),.sl false [.i .i64 0,.s [],.sl false [.s [],.i .i64 0,.s []] [],.sl false [.i .i64 0,.s [],.sl false [.s [],.i .i64 0,.s []] [],.i .i64 0,.s [],.i .i64 0,.s [],.s [],.i .i64 0,.s []] []] (x1.map (c6.cells false false))]]])]=some (True,[],.one (false,[.b (l.any (fun y=>a2J (c4.mk x0 x1) y))])):=(b3m (a9m (fun x h=>by simp only [List.cons.injEq,Prod.mk.injEq,C.i.injEq,C.s.injEq,C.b.injEq,C.sl.injEq,C.p.injEq,C.mp.injEq,C.f.injEq,reduceCtorEq,Bool.false_eq_true,Nat.reduceEqDiff,Bool.true_eq_false,true_and,and_true,false_and,and_false] at h))).trans (b9y (b3e l x0 x1))
@[go_sem] theorem b8M (l:List f5):t8 [(false,[.sl false [.s [],.sl false [.s [],.i .i64 0,.s []] []] (l.map (f5.cells false false))]),(false,[.f 443 []])]=some (True,[],.one (false,[.b (l.any (fun y=>b1p y))])):=(b3m (a9m (fun x h=>by simp only [List.cons.injEq,Prod.mk.injEq,C.i.injEq,C.s.injEq,C.b.injEq,C.sl.injEq,C.p.injEq,C.mp.injEq,C.f.injEq,reduceCtorEq,Bool.false_eq_true,Nat.reduceEqDiff,Bool.true_eq_false,true_and,and_true,false_and,and_false] at h))).trans ((b3m (a9m (fun x h=>by simp only [List.cons.injEq,Prod.mk.injEq,C.i.injEq,C.s.injEq,C.b.injEq,C.sl.injEq,C.p.injEq,C.mp.injEq,C.f.injEq,reduceCtorEq,Bool.false_eq_true,Nat.reduceEqDiff,Bool.true_eq_false,true_and,and_true,false_and,and_false] at h))).trans (b3g l))
theorem a4c:OkC Tryz.prog 440 t8:=(c7C b3d (c7C b3f b3h))
@[go_sem] def a8N:ACode:=q' 2 [ao (.box 2 (.t 0)),ao (.box 4 (.t 1)),aK 0] (q' 8 [ae 4 3,ac 439 [8],aV 5] (.seq (q' 10 [am 5,ao (.mf 441 [.t 2]),ac 440 [10,11]] (.cond (.t 12) (q' 4 [aK
 3] .ret) .skip)) (.seq (q' 13 [am 5,ao (.mf 442 [.t 2]),ac 440 [13,14]] (.cond (.t 15) (q' 4 [aK 4] .ret) .skip)) (q' 16 [ae 2 2,af 1 3,aG 0 17,ac 225
 [16,19],aV 6] (q' 21 [am 6,ao (.bin .eql (.t 21) (k' 3)),am 22,au (.fa 1 (.t 3)) 23 false,au (.fa 0 (.t 24)) 23 false,au (.ld false 1 (.t 25)) 23 false,au
 (.bin .eql (.t 26) (.k (.v false [.c (.s [102,111,114,119,97,114,100])]))) 23 false,ao (.pick (.t 23) (bb true) (.t 27)),aV 7] (.seq (.block 0 (q' 30
 [aG 0 3,ao (.bin .eql (.t 31) (k' 1)),am 32,au (.mov (.t 7)) 33 true,au (.not (.t 34)) 33 true,ao (.pick (.t 33) (.t 35) (bb false)),am 36,au (.fa 0 (.t 3))
 37 false,au (.ld false 1 (.t 38)) 37 false,au (.bin .neq (.t 39) (k' 1)) 37 false,au (.mov (.t 40)) 37 false,au (.mov (.t 6)) 41 true,au (.bin .neq (.t 42)
 (k' 1)) 41 true,au (.pick (.t 41) (.t 43) (bb false)) 37 false,ao (.pick (.t 37) (bb true) (.t 44)),aV 29] (.cond (.t 29) (q' 4 [aK 5] .ret) (q' 47 [am 5,ao
 (.slc 2 (.t 47) (some (k' 1)) none none),ao (.call 440 [.t 48,.k (.v false [.c (.f 443 [])])]),aV 46] (.cond (.t 46) (q' 4 [aK 6] .ret) (q' 51 [ae 2 2,ae 4
 3,ac 444 [51,52],ao (.not (.t 53)),aV 50] (.cond (.t 50) (q' 4 [aK 7] .ret) .skip))))))) (q' 4 [aK 0] .ret)))))))
theorem b1w (p:c4) (r:c6) (hpre:r.Body.length≤8):Z9 Tryz.prog 387 [(true,[.sl false [.i .i64 0,.s [],.i .i64 0] (p.Decls.map d7.cells),.sl false [.i .i64 0,.s [],.sl false [.s [],.i .i64 0,.s []] [],.sl false [.i .i64 0,.s [],.sl false [.s [],.i .i64 0,.s []] [],.i .i64 0,.s [],.i .i64 0,.s [],.s [],.i .i64 0,.s []] []] (p.Rules.map (c6.cells false false))]),(true,[.i .i64 r.Kind,.s r.Head.Name,.sl false [.s [],.i .i64 0,.s []] (r.Head.Args.map c8.cells),.sl false [.i .i64 0,.s [],.sl false [.s [],.i .i64 0,.s []] [],.i .i64 0,.s [],.i .i64 0,.s [],.s [],.i .i64 0,.s []] (r.Body.map (d5.cells false false))])] [] (.one (false,[.i .i64 (o6 p r)])):=by
 refine sx' false false none Tryz.func387 a8N [.t 4] [(439,[],a1J),(440,[],t8),(225,[],v6),(444,[],a0q)] ?_ (hΓ:=⟨a7x,a4c,a9g,a4b,trivial⟩)
 intro hb hE
 simp only [go_sem];(repeat' first | apply CJ.mk | intro hc);all_goals try exact om'
 all_goals (try simp only [a0a] at *)
 all_goals (clear hb)
 all_goals (first | (have:=a9T r;omega) | grind [o6,a2h,fwB])
noncomputable def a3H:CT:=l5 (fun (x:c4×c6) h=>b1w x.1 x.2 h)
@[go_sem] def c1H:=fun x0 x1 x2 x3 x4 x5=>nm' (fP' a3H rfl (⟨x0,x1⟩,⟨x2,⟨x3,x4⟩,x5⟩))
theorem a7l {α:Type} {q:α→Bool} {l:List α} {i:Nat} (d:α) (h:i < l.length) (hp:q (l.getD i d)=true):l.any q=true:=by
 rw [List.any_eq_true]
 exact ⟨l.getD i d,by rw [i6 d h];exact List.getElem_mem h,hp⟩
theorem c4v {α:Type} {q:α→Bool} {l:List α} {i k:Nat} (d:α) (hk:k≤i) (h:i < l.length) (ha:((l.take i).drop k).any q=false) (hp:q (l.getD i d)=false):((l.take (i+1)).drop k).any q=false:=by
 rw [i5 d h,List.drop_append_of_le_length (by rw [List.length_take];omega),List.any_append,ha]
 simp only [List.any_cons,List.any_nil,hp,Bool.or_false]
theorem c7d {α:Type} {q:α→Bool} {l:List α} {i k:Nat} (d:α) (hk:k≤i) (h:i < l.length) (hp:q (l.getD i d)=true):(l.drop k).any q=true:=by
 rw [List.any_eq_true]
 refine ⟨l.getD i d, ?_,hp⟩
 rw [i6 d h,List.mem_drop_iff_getElem]
 exact ⟨i - k,by omega,by congr 1;omega⟩
@[go_sem] def b1g:ACode:=q' 2 [ao (.box 2 (.t 0)),ao (.box 4 (.t 1)),aK 0] (q' 15 [ae 4 3,ac 291 [15],aV 5] (.seq (q' 17 [am 5,aN,aK 0] (.block 0 (.loop (q' 20 [ar 19 18] (.seq (.cond
 (.t 20) .skip (.exit 0)) (.seq (.block 1 (q' 21 [ai 2 17 19,aE 2,ax (w' 7 [.s,.sl [.s [],.i .i64 0,.s []]]),aS 2 7 22] (q' 23 [ae 2 2,aG 0 7,ac 381
 [23,25],ao (.bin .lss (.t 26) (k' 0))] (.cond (.t 27) (q' 4 [aK 3] .ret) .skip)))) (g' 28 [aA 19]))))))) (.seq (q' 29 [am 5,aN,aK 0] (.block 2 (.loop (q' 32
 [ar 31 30] (.seq (.cond (.t 32) .skip (.exit 2)) (.seq (.block 3 (q' 33 [ai 2 29 31,aE 2,ax (w' 9 [.s,.sl [.s [],.i .i64 0,.s []]]),aS 2 9 34] (.seq (G' 35
 [ae 2 2,aG 0 9,ac 381 [35,37],aG 1 9,aN,ao (.bin .neq (.t 38) (.t 41))]) (.cond (.t 42) (q' 4 [aK 4] .ret) .skip)))) (g' 43 [aA 31]))))))) (q' 44 [ae 2 2,af 1
 3,aG 0 45,ac 116 [44,47],ao (.fl false 0 1 (.t 48)),aV 10] (.seq (q' 50 [aG 0 3,ao (.bin .eql (.t 51) (k' 1)),am 52,au (.mov (.t 10)) 53 true,au (.bin .neq
 (.t 54) (k' 3)) 53 true,ao (.pick (.t 53) (.t 55) (bb false)),am 56,au (.fa 1 (.t 3)) 57 true,au (.fa 0 (.t 58)) 57 true,au (.ld false 1 (.t 59)) 57 true,au
 (.bin .neq (.t 60) (.k (.v false [.c (.s [102,111,114,119,97,114,100])]))) 57 true,ao (.pick (.t 57) (.t 61) (bb false)),am 62,au (.fa 0 (.t 3)) 63
 false,au (.ld false 1 (.t 64)) 63 false,au (.bin .neq (.t 65) (k' 1)) 63 false,au (.mov (.t 66)) 63 false,au (.mov (.t 10)) 67 true,au (.bin .neq (.t 68) (k'
 1)) 67 true,au (.pick (.t 67) (.t 69) (bb false)) 63 false,ao (.pick (.t 63) (bb true) (.t 70))] (.cond (.t 71) (q' 4 [aK 5] .ret) .skip)) (.seq (q' 72 [am
 5,ao (.slc 2 (.t 72) (some (k' 1)) none none),aN,aK 0] (.block 4 (.loop (q' 76 [ar 75 74] (.seq (.cond (.t 76) .skip (.exit 4)) (.seq (.block 5 (q' 77 [ai 2
 73 75,aE 2,ax (w' 12 [.s,.sl [.s [],.i .i64 0,.s []]]),aS 2 12 78] (q' 79 [aG 0 12,ao (.bin .eql (.t 80) (.k (.v false [.c (.s [102,111,114,119,97,
 114,100])])))] (.cond (.t 81) (q' 4 [aK 6] .ret) .skip)))) (g' 82 [aA 75]))))))) (q' 13 [aK 0] (.seq (q' 83 [aG 0 3,ao (.bin .neq (.t 84) (k' 1)),am 85,au
 (.fa 1 (.t 3)) 86 false,au (.fa 0 (.t 87)) 86 false,au (.ld false 1 (.t 88)) 86 false,au (.bin .eql (.t 89) (.k (.v false [.c (.s [102,111,114,119,97,
 114,100])]))) 86 false,ao (.pick (.t 86) (bb true) (.t 90))] (.cond (.t 91) (.seq (.seq (G' 92 [aG 3 3,aN,ao (.bin .eql (.t 94) (k' 0)),am 95,au (.fa 3 (.t
 3)) 96 false,au (.ld false 1 (.t 97)) 96 false,au (.ia 10 (.t 98) (k' 0)) 96 false,au (.fa 0 (.t 99)) 96 false,au (.ld false 1 (.t 100)) 96 false,au (.bin
 .neq (.t 101) (k' 1)) 96 false,ao (.pick (.t 96) (bb true) (.t 102)),am 103,au (.ld true 2 (.t 2)) 104 false,au (.fa 3 (.t 3)) 104 false,au (.ld false 1 (.t
 106)) 104 false,au (.ia 10 (.t 107) (k' 0)) 104 false,au (.fa 1 (.t 108)) 104 false,au (.fa 0 (.t 109)) 104 false,au (.ld false 1 (.t 110)) 104 false,au
 (.call 382 [.t 105,.t 111]) 104 false,au (.not (.t 112)) 104 false,ao (.pick (.t 104) (bb true) (.t 113))]) (.cond (.t 114) (q' 4 [aK 7] .ret) .skip)) (.seq
 (q' 115 [aG 0 3,ao (.bin .eql (.t 116) (k' 1)),am 117,au (.fa 3 (.t 3)) 118 true,au (.ld false 1 (.t 119)) 118 true,au (.ia 10 (.t 120) (k' 0)) 118 true,au
 (.fa 1 (.t 121)) 118 true,au (.fa 0 (.t 122)) 118 true,au (.ld false 1 (.t 123)) 118 true,au (.bin .neq (.t 124) (.k (.v false [.c (.s [112,97,99,107,101,
 116])]))) 118 true,ao (.pick (.t 118) (.t 125) (bb false))] (.cond (.t 126) (q' 4 [aK 7] .ret) .skip)) (g' 13 [aK 1]))) .skip)) (.seq (q' 127 [am 13,aV 14]
 (.block 6 (.loop (.seq (q' 128 [am 14,aG 3 3,aN,ar 128 131] (.cond (.t 132) .skip (.exit 6))) (.seq (.block 7 (.seq (G' 135 [aG 3 3,am 14,aI 10,aG 0 138,ao
 (.bin .neq (.t 140) (k' 3)),am 141,au (.ld true 2 (.t 2)) 142 true,au (.fa 3 (.t 3)) 142 true,au (.ld false 1 (.t 144)) 142 true,au (.mov (.t 14)) 142 true,au
 (.ia 10 (.t 145) (.t 146)) 142 true,au (.fa 1 (.t 147)) 142 true,au (.fa 0 (.t 148)) 142 true,au (.ld false 1 (.t 149)) 142 true,au (.call 382 [.t 143,.t
 150]) 142 true,ao (.pick (.t 142) (.t 151) (bb false))]) (.cond (.t 152) (q' 4 [aK 7] .ret) .skip))) (g' 133 [aB 14])))))) (q' 4 [aK 0] .ret))))))))))
theorem b4u (p:c4) (r:c6) (hpre:r.Body.length≤8∧m9 p=true):Z9 Tryz.prog 332 [(true,[.sl false [.i .i64 0,.s [],.i .i64 0] (p.Decls.map d7.cells),.sl false [.i .i64 0,.s [],.sl false [.s [],.i .i64 0,.s []] [],.sl false [.i .i64 0,.s [],.sl false [.s [],.i .i64 0,.s []] [],.i .i64 0,.s [],.i .i64 0,.s [],.s [],.i .i64 0,.s []] []] (p.Rules.map (c6.cells false false))]),(true,[.i .i64 r.Kind,.s r.Head.Name,.sl false [.s [],.i .i64 0,.s []] (r.Head.Args.map c8.cells),.sl false [.i .i64 0,.s [],.sl false [.s [],.i .i64 0,.s []] [],.i .i64 0,.s [],.i .i64 0,.s [],.s [],.i .i64 0,.s []] (r.Body.map (d5.cells false false))])] [] (.one (false,[.i .i64 (o6 p r)])):=by
 refine sx' false false none Tryz.func332 b1g [.t 4] [(291,[],a3W),(381,[],a3V),(116,[],y7),(382,[],a2W)] ?_
 intro hb hE
 obtain ⟨hp8,hpB⟩:=hpre
 have hA:=c1x r
 have hA1:=a9T r
 simp only [go_sem,a0a];(repeat' first | apply CJ.mk | intro hc);all_goals try exact om'
 refine lq' false [2,3,5,17,18] [4,6] [2048] (fun i:{i:Nat // i≤(m8 r).length∧((m8 r).take i).any (a2I p)=false}=>[(19,slV (.i .i64 i.1))]) nl' nl' (fun i=>(m8 r).length - i.1) (⟨0,by simp⟩) ?_
 intro S0 hS0 i
 obtain ⟨i,hi,ha⟩:=i
 simp only [go_sem,a0a,hS0];(repeat' first | apply CJ.mk | intro hc);all_goals try exact om'
 ·rw [o6,a7l (q:=a2I p) default (by omega) (decide_eq_true hc)];rfl
 ·(refine lpK_n2 (⟨i+1,by omega,j5 (p:=a2I p) default (by omega) ha (decide_eq_false hc)⟩) _ rfl ?_;simp only [go_sem,a0a,hS0];first | done | ((repeat' apply And.intro)<;>try exact on'))
 rw [f9 (by omega)] at ha
 clear hc hi
 refine lq' false [2,3,5,29,30] [4,6] [2048] (fun i:{i:Nat // i≤(m8 r).length∧((m8 r).take i).any (a2J p)=false}=>[(31,slV (.i .i64 i.1))]) nl' nl' (fun i=>(m8 r).length - i.1) (⟨0,by simp⟩) ?_
 intro S1 hS1 i
 obtain ⟨i,hi,hb1⟩:=i
 simp only [go_sem,a0a,hS0,hS1];(repeat' first | apply CJ.mk | intro hc);all_goals try exact om'
 ·rw [o6,ha,a7l (q:=a2J p) default (by omega) hc];rfl
 ·(refine lpK_n2 (⟨i+1,by omega,j5 (p:=a2J p) default (by omega) hb1 hc⟩) _ rfl ?_;simp only [go_sem,a0a,hS0,hS1];first | done | ((repeat' apply And.intro)<;>try exact on'))
 ·rw [f9 (by omega)] at hb1
  clear hb hS0 hS1
  grind [o6,a2h,p9,fwB]
 rw [f9 (by omega)] at hb1
 have hk:a2h p r=false:=by
  clear hb hS0 hS1
  grind [a2h,p9,fwB]
 clear hc hi
 refine lq' false [2,3,73,74] [4,6] [9344] (fun i:{i:Nat // i≤((m8 r).drop 1).length∧(((m8 r).drop 1).take i).any b1p=false}=>[(75,slV (.i .i64 i.1))]) nl' nl' (fun i=>((m8 r).drop 1).length - i.1) (⟨0,by simp⟩) ?_
 intro S2 hS2 i
 obtain ⟨i,hi,hf⟩:=i
 have hD:((m8 r).drop 1).length≤8:=by rw [List.length_drop];omega
 simp only [go_sem,a0a,hS0,hS1,hS2];(repeat' first | apply CJ.mk | intro hc);all_goals try exact om'
 ·rw [o6,ha,hb1,hk,a7l (q:=b1p) default (by omega) hc];rfl
 ·(refine lpK_n2 (⟨i+1,by omega,j5 (p:=b1p) default (by omega) hf hc⟩) _ rfl ?_;simp only [go_sem,a0a,hS0,hS1,hS2];first | done | ((repeat' apply And.intro)<;>try exact on'))
 all_goals (rw [f9 (by omega)] at hf)
 ·clear hb hS0 hS1 hS2;grind
 ·clear hb hS0 hS1 hS2;grind
 ·clear hb hS0 hS1 hS2;grind [o6,b1o,b9K,pkB,fwB]
 ·clear hb hS0 hS1 hS2;grind
 ·clear hb hS0 hS1 hS2;grind [o6,b1o,b9K,pkB,fwB]
 ·have hg:b1o p r=!(r.Body.drop 1).any (a5D p):=by
   clear hb hS0 hS1 hS2;grind [b1o,b9K,pkB,fwB]
  have h1:1≤r.Body.length:=by
   clear hb hS0 hS1 hS2;grind
  clear hc
  refine lq' false [2,3] [4,6] [] (fun i:{i:Nat // 1≤i∧i≤r.Body.length∧((r.Body.take i).drop 1).any (a5D p)=false}=>[(14,slV (.i .i64 i.1))]) nl' nl' (fun i=>r.Body.length - i.1) (⟨1,by omega,by omega,by cases r.Body<;>rfl⟩) ?_
  intro S3 hS3 i
  obtain ⟨i,h1i,hi,hm⟩:=i
  simp only [go_sem,a0a,hS0,hS1,hS2,hS3];(repeat' first | apply CJ.mk | intro hc);all_goals try exact om'
  ·have:b1o p r=false:=by rw [hg,c7d (q:=a5D p) (i:=i) default (by omega) (by omega) (Bool.and_eq_true_iff.2 hc)];rfl
   rw [o6,ha,hb1,hk,hf,this];rfl
  ·(refine lpK_n2 (⟨i+1,by omega,by omega,c4v (q:=a5D p) default (by omega) (by omega) hm hc⟩) _ rfl ?_;simp only [go_sem,a0a,hS0,hS1,hS2,hS3];first | done | ((repeat' apply And.intro)<;>try exact on'))
  ·rw [f9 (by omega)] at hm
   rw [hm] at hg
   rw [o6,ha,hb1,hk,hf,hg];rfl
 ·have hg:b1o p r=!r.Body.any (a5D p):=by
   clear hb hS0 hS1 hS2;grind [b1o,fwB]
  clear hc
  refine lq' false [2,3] [4,6] [] (fun i:{i:Nat // i≤r.Body.length∧(r.Body.take i).any (a5D p)=false}=>[(14,slV (.i .i64 i.1))]) nl' nl' (fun i=>r.Body.length - i.1) (⟨0,by omega,by simp⟩) ?_
  intro S3 hS3 i
  obtain ⟨i,hi,hm⟩:=i
  simp only [go_sem,a0a,hS0,hS1,hS2,hS3];(repeat' first | apply CJ.mk | intro hc);all_goals try exact om'
  ·have:b1o p r=false:=by rw [hg,a7l (q:=a5D p) (i:=i) default (by omega) (Bool.and_eq_true_iff.2 hc)];rfl
   rw [o6,ha,hb1,hk,hf,this];rfl
  ·(refine lpK_n2 (⟨i+1,by omega,j5 (p:=a5D p) default (by omega) hm hc⟩) _ rfl ?_;simp only [go_sem,a0a,hS0,hS1,hS2,hS3];first | done | ((repeat' apply And.intro)<;>try exact on'))
  ·rw [f9 (by omega)] at hm
   rw [hm] at hg
   rw [o6,ha,hb1,hk,hf,hg];rfl
noncomputable def a4W:CT:=l5 (fun (x:c4×c6) h=>b4u x.1 x.2 h)
@[go_sem] def c3x:=fun x0 x1 x2 x3 x4 x5=>nm' (fP' a4W rfl (⟨x0,x1⟩,⟨x2,⟨x3,x4⟩,x5⟩))
theorem b0j (p:c4) (r:c6):0≤o6 p r:=by
 unfold o6
 cases (m8 r).any (a2I p)<;>cases (m8 r).any (a2J p)<;>cases a2h p r<;>cases ((m8 r).drop 1).any b1p<;>cases b1o p r<;>decide
theorem a1f {p:c4} (h:m9 p=false):i4 p=(1,0):=by simp [i4,h]
theorem a0o {p:c4} (h:m9 p=true) {i:Nat} (hi:i < p.Decls.length) (ha:∀ j,j < i→l8 p j=false) (hq:l8 p i=true):i4 p=(2,(i:Int)):=by
 rw [i4,h,y9 ha hq hi,if_pos hi];rfl
theorem a1q {p:c4} (h:m9 p=true) (hd:∀ j,j < p.Decls.length→l8 p j=false) {i:Nat} (hi:i < p.Rules.length) (ha:∀ j,j < i→q0 p j=false) (hq:q0 p i=true):i4 p=(o6 p (p.Rules.getD i default),(i:Int)):=by
 rw [i4,h,y8 hd,if_neg (by omega),y9 ha hq hi,if_pos hi];rfl
theorem a6g {p:c4} (h:m9 p=true) (hd:∀ j,j < p.Decls.length→l8 p j=false) (ha:∀ j,j < p.Rules.length→q0 p j=false):i4 p=(0,0):=by
 rw [i4,h,y8 hd,if_neg (by omega),y8 ha,if_neg (by omega)];rfl
theorem a3w {q:Nat→Bool} {i:Nat} (h:∀ j,j < i→q j=false) (hi:q i=false):∀ j,j < i+1→q j=false:=by
 intro j hj
 rcases Nat.lt_succ_iff_lt_or_eq.1 hj with h1 | rfl
 ·exact h j h1
 ·exact hi
theorem c0n {p:c4} (h:m9 p=true) {i:Nat} (hi:i < p.Rules.length):(p.Rules.getD i default).Body.length≤8:=by
 rw [i6 default hi];exact b9L h (List.getElem_mem hi)
@[go_sem] def a4g:ACode:=q' 0 [ax (o' 2 (.box 3 (.t 0))),ab 3 false] (q' 4 [aG 1 2,aG 1 1,ao (.bin .eql (.t 5) (.t 7)),aV 3] .ret)
theorem a5A (y:d7) (d:d7):Z9 Tryz.prog 386 [(true,[.i .i64 y.Kind,.s y.Name,.i .i64 y.Arity]),(false,[.p [.i .i64 d.Kind,.s d.Name,.i .i64 d.Arity]])] [] (.one (false,[.b (y.Name==d.Name)])):=by
 refine sx' false false none Tryz.func386 a4g [.t 3] [] ?_
 intro hb hE
 simp only [go_sem];(repeat' first | apply CJ.mk | intro hc);all_goals try exact om'
 all_goals (first | rfl)
noncomputable def a1t:CT:=i3 (fun (x:d7×d7)=>a5A x.1 x.2)
@[go_sem] def b7H:=fun x0 x1 x2 x3 x4 x5=>nm' (fQ' a1t rfl (⟨x0,x1,x2⟩,⟨x3,x4,x5⟩))
@[go_sem] def c1t:ACode:=q' 4 [aK 0] (.seq (q' 6 [am 0,aN,aK 0] (.block 0 (.loop (q' 9 [ar 8 7] (.seq (.cond (.t 9) .skip (.exit 0)) (.seq (.block 1 (q' 10 [am 8,aV 5] (q' 11 [aM
 [1,0,5],aI 3,aE 3,ao (.callv (.t 11) [.t 15])] (.cond (.t 16) (q' 17 [am 5,aV 4] .ret) .skip)))) (g' 18 [aA 8]))))))) (q' 4 [ao (.mov (.k (.v false [.c (.i
 .i64 (-1))])))] .ret))
theorem b7T (l:List d7) (d:d7):Z9 Tryz.prog 438 [(false,[.sl false [.i .i64 0,.s [],.i .i64 0] (l.map d7.cells)]),(false,[.f 386 [.p [.i .i64 d.Kind,.s d.Name,.i .i64 d.Arity]]])] [] (.one (false,[.i .i64 (a0H (fun y:d7=>y.Name==d.Name) l)])):=by
 refine sx' false false none Tryz.func438 c1t [.t 4] [(386,[],a1t)] ?_
 intro hb hE
 simp only [go_sem];(repeat' first | apply CJ.mk | intro hc);all_goals try exact om'
 refine lq' false [0,1,7] [] [] (fun i:{i:Nat // i≤l.length∧(l.take i).any (fun y:d7=>y.Name==d.Name)=false}=>[(8,slV (.i .i64 i.1))]) nl' nl' (fun i=>l.length - i.1) (⟨0,by simp⟩) ?_
 intro S0 hS0 i
 obtain ⟨i,hi,ha⟩:=i
 simp only [go_sem,hS0];(repeat' first | apply CJ.mk | intro hc);all_goals try exact om'
 ·exact (o0 (p:=fun y:d7=>y.Name==d.Name) (d:=default) (by omega) ha (by simpa [-List.getD_eq_getElem?_getD] using hc)).symm
 ·exact nx0 ⟨i+1,by omega,j5 (p:=fun y:d7=>y.Name==d.Name) default (by omega) ha (by simpa [-List.getD_eq_getElem?_getD] using hc)⟩
 ·exact (n9 (by rwa [f9 (by omega)] at ha)).symm
noncomputable def a7p:CT:=i3 (fun (x:(List d7)×d7)=>b7T x.1 x.2)
@[go_sem] def c5Z:=fun l x0 x1 x2=>nm' (fQ' a7p rfl (l,⟨x0,x1,x2⟩))
@[go_sem] def c1p:ACode:=q' 0 [ab 4 false] (q' 5 [aM [0,1],ac 438 [5,6],ao (.bin .geq (.t 7) (k' 0)),aV 4] .ret)
theorem b7R (l:List d7) (d:d7):Z9 Tryz.prog 385 [(false,[.sl false [.i .i64 0,.s [],.i .i64 0] (l.map d7.cells)]),(false,[.f 386 [.p [.i .i64 d.Kind,.s d.Name,.i .i64 d.Arity]]])] [] (.one (false,[.b (l.any (fun y:d7=>y.Name==d.Name))])):=by
 refine sx' false false none Tryz.func385 c1p [.t 4] [(438,[],a7p)] ?_
 intro hb hE
 simp only [go_sem];(repeat' first | apply CJ.mk | intro hc);all_goals try exact om'
 ·exact z6 _ _
noncomputable def a7n:CT:=i3 (fun (x:(List d7)×d7)=>b7R x.1 x.2)
@[go_sem] def c5X:=fun l x0 x1 x2=>nm' (fQ' a7n rfl (l,⟨x0,x1,x2⟩))
@[go_sem] def a6z:ACode:=q' 1 [ao (.box 2 (.t 0)),aK 0,aK 0] (.seq (q' 9 [ae 2 1,ac 331 [9],ao (.not (.t 10))] (.cond (.t 11) (q' 2 [aK 1,aK 0] .ret) .skip)) (.seq (q' 12 [aG 0 1,aN,aK
 0] (.block 0 (.loop (q' 16 [ar 15 14] (.seq (.cond (.t 16) .skip (.exit 0)) (.seq (.block 1 (q' 17 [am 15,aV 4] (q' 18 [aG 0 1,am 4,aI 3,aG 1 21,aV 5] (.seq
 (q' 24 [am 5,ao (.bin .eql (.t 24) (.k (.v false [.c (.s [112,97,99,107,101,116])]))),am 25,au (.mov (.t 5)) 26 false,au (.bin .eql (.t 27) (.k (.v false
 [.c (.s [102,111,114,119,97,114,100])]))) 26 false,ao (.pick (.t 26) (bb true) (.t 28))] (.cond (.t 29) (q' 30 [am 4,az 2 2,aV 3] .ret) .skip)) (q' 6
 [aK 0] (.block 2 (.loop (.seq (q' 31 [aM [6,4],ar 31 32] (.cond (.t 33) .skip (.exit 2))) (.seq (.block 3 (q' 36 [aG 0 1,am 6,aI 3,aG 1 39,am 5,ao (.bin .eql
 (.t 41) (.t 42))] (.cond (.t 43) (q' 44 [am 4,az 2 2,aV 3] .ret) .skip))) (g' 34 [aB 6])))))))))) (g' 45 [aA 15]))))))) (.seq (q' 46 [aG 1 1,aN,aK 0] (.block
 4 (.loop (q' 50 [ar 49 48] (.seq (.cond (.t 50) .skip (.exit 4)) (.seq (.block 5 (q' 51 [am 49,aV 7] (.seq (G' 52 [ae 2 1,aG 1 1,am 7,aI 4,aE 4,ac 332
 [52,57],aV 8]) (q' 59 [am 8,ao (.bin .gtr (.t 59) (k' 0))] (.cond (.t 60) (q' 61 [aM [8,7],av 2 61,aV 3] .ret) .skip))))) (g' 63 [aA 49]))))))) (q' 2 [aK 0,aK
 0] .ret))))
theorem a8e (p:c4):Z9 Tryz.prog 230 [(true,[.sl false [.i .i64 0,.s [],.i .i64 0] (p.Decls.map d7.cells),.sl false [.i .i64 0,.s [],.sl false [.s [],.i .i64 0,.s []] [],.sl false [.i .i64 0,.s [],.sl false [.s [],.i .i64 0,.s []] [],.i .i64 0,.s [],.i .i64 0,.s [],.s [],.i .i64 0,.s []] []] (p.Rules.map (c6.cells false false))])] [] (.tup [(false,[.i .i64 ((i4 p).1)]),(false,[.i .i64 ((i4 p).2)])]):=by
 refine sx' false false none Tryz.func230 a6z [.t 2,.t 3] [(331,[],a0W),(332,[],a4W)] ?_
 intro hb hE
 simp only [go_sem];(repeat' first | apply CJ.mk | intro hc);all_goals try exact om'
 ·rw [a1f hc];exact ⟨rfl,rfl⟩
 have hB:m9 p=true:=hc
 clear hc
 refine lq' false [1,14] [2] [] (fun i:{i:Nat // i≤p.Decls.length∧∀ j,j < i→l8 p j=false}=>[(15,slV (.i .i64 i.1))]) nl' nl' (fun i=>p.Decls.length - i.1) (⟨0,by omega,by intro j h;omega⟩) ?_
 intro S0 hS0 i
 obtain ⟨n,hn,ha⟩:=i
 simp only [go_sem,hS0];(repeat' first | apply CJ.mk | intro hc);all_goals try exact om'
 ·have hq:l8 p n=true:=by rcases hc with hc | hc<;>(simp only [l8,pkB,fwB,hc,Bool.true_or,Bool.or_true])
  rw [a0o hB (by omega) ha hq];exact ⟨rfl,rfl⟩
 ·have hN:=hc
  clear hc
  refine lq' false [1,4,5,14,15] [2] [] (fun i:{k:Nat // k≤n∧(p.Decls.take k).any (fun x=>x.Name==(p.Decls.getD n default).Name)=false}=>[(6,slV (.i .i64 i.1))]) nl' nl' (fun i=>n - i.1) (⟨0,by omega,by simp⟩) ?_
  intro S1 hS1 i
  obtain ⟨k,hk,hx⟩:=i
  simp only [go_sem,hS0,hS1];(repeat' first | apply CJ.mk | intro hc);all_goals try exact om'
  ·have:((p.Decls.take n).any fun x=>x.Name==(p.Decls.getD n default).Name)=true:=by
    refine a7l (q:=fun x:d7=>x.Name==(p.Decls.getD n default).Name) (i:=k) default (by rw [List.length_take];omega) ?_
    have e:(p.Decls.take n).getD k default=p.Decls.getD k default:=by
     simp only [List.getD_eq_getElem?_getD,List.getElem?_take];rw [if_pos (by omega)]
    rw [e];exact hc
   have hq:l8 p n=true:=by rw [l8,this,Bool.or_true]
   rw [a0o hB (by omega) ha hq];exact ⟨rfl,rfl⟩
  ·exact nx1 ⟨k+1,by omega,j5 (p:=fun x:d7=>x.Name==(p.Decls.getD n default).Name) default (by omega) hx hc⟩
  ·have e:k=n:=by omega
   subst e
   have hq:l8 p k=false:=by rw [l8,hx];simp only [pkB,fwB,hN,Bool.or_false]
   exact nx1 ⟨k+1,by omega,a3w ha hq⟩
 have hd:∀ j,j < p.Decls.length→l8 p j=false:=fun j hj=>ha j (by omega)
 clear hc ha
 refine lq' false [1,48] [2] [] (fun i:{i:Nat // i≤p.Rules.length∧∀ j,j < i→q0 p j=false}=>[(49,slV (.i .i64 i.1))]) nl' nl' (fun i=>p.Rules.length - i.1) (⟨0,by omega,by intro j h;omega⟩) ?_
 intro S2 hS2 i
 obtain ⟨n,hn,ha⟩:=i
 simp only [go_sem,hS0,hS2];(repeat' first | apply CJ.mk | intro hc);all_goals try exact om'
 ·exact ⟨c0n hB (by omega),hB⟩
 ·have hq:q0 p n=true:=by
   have:=b0j p (p.Rules.getD n default)
   rw [q0,Bool.not_eq_true',beq_eq_false_iff_ne];omega
  rw [a1q hB hd (by omega) ha hq];exact ⟨rfl,rfl⟩
 ·have hq:q0 p n=false:=by
   have:=b0j p (p.Rules.getD n default)
   rw [q0,Bool.not_eq_false',beq_iff_eq];omega
  (refine lpK_n2 (⟨n+1,by omega,a3w ha hq⟩) _ rfl ?_;simp only [go_sem,hS0,hS2];first | done | ((repeat' apply And.intro)<;>try exact on'))
 ·rw [a6g hB hd (fun j hj=>ha j (by omega))];exact ⟨rfl,rfl⟩
noncomputable def a0E:CT:=i3 (fun (x:c4)=>a8e x)
@[go_sem] def b9q:=fun x0 x1=>nm' (fQ' a0E rfl ⟨x0,x1⟩)
theorem b9z {α:Type} (l:List α) (n:Nat):cut l 0 n=l.take n:=by unfold cut;simp
@[go_sem] def a6r:ACode:=q' 1 [ao (.box 2 (.t 0)),aK 0,aK 0] (.seq (q' 9 [ae 2 1,ac 333 [9],ao (.not (.t 10))] (.cond (.t 11) (q' 2 [aK 1,aK 0] .ret) .skip)) (.seq (q' 12 [aG 0 1,aN,aK
 0] (.block 0 (.loop (q' 16 [ar 15 14] (.seq (.cond (.t 16) .skip (.exit 0)) (.seq (.block 1 (q' 17 [am 15,ai 3 13 15,aE 3,ax (w' 5 [.i .i64,.s,.i .i64]),av
 4 17,aS 3 5 19] (q' 20 [aG 1 5,ao (.bin .eql (.t 21) (.k (.v false [.c (.s [112,97,99,107,101,116])]))),am 22,au (.fa 1 (.t 5)) 23 false,au (.ld false 1
 (.t 24)) 23 false,au (.bin .eql (.t 25) (.k (.v false [.c (.s [102,111,114,119,97,114,100])]))) 23 false,ao (.pick (.t 23) (bb true) (.t 26)),am 27,au
 (.fa 0 (.t 1)) 28 false,au (.ld false 1 (.t 29)) 28 false,au (.mov (.t 4)) 28 false,au (.slc 3 (.t 30) none (some (.t 31)) none) 28 false,au (.mf 386 [.t 5])
 28 false,au (.call 385 [.t 32,.t 33]) 28 false,ao (.pick (.t 28) (bb true) (.t 34))] (.cond (.t 35) (q' 36 [am 4,az 2 2,aV 3] .ret) .skip)))) (g' 37 [aA
 15]))))))) (.seq (q' 38 [aG 1 1,aN,aK 0] (.block 2 (.loop (q' 42 [ar 41 40] (.seq (.cond (.t 42) .skip (.exit 2)) (.seq (.block 3 (q' 43 [am 41,ai 4 39 41,aE
 4,ax (w' 7 [.i .i64,.s,.sl [.s [],.i .i64 0,.s []],.sl [.i .i64 0,.s [],.sl false [.s [],.i .i64 0,.s []] [],.i .i64 0,.s [],.i .i64 0,.s [],.s
 [],.i .i64 0,.s []]]),av 6 43,aS 4 7 45] (q' 46 [ae 2 1,ae 4 7,ac 387 [46,47],aV 8] (q' 49 [am 8,ao (.bin .neq (.t 49) (k' 0))] (.cond (.t 50) (q' 51 [aM
 [8,6],av 2 51,aV 3] .ret) .skip))))) (g' 53 [aA 41]))))))) (q' 2 [aK 0,aK 0] .ret))))
theorem a7W (p:c4):Z9 Tryz.prog 336 [(true,[.sl false [.i .i64 0,.s [],.i .i64 0] (p.Decls.map d7.cells),.sl false [.i .i64 0,.s [],.sl false [.s [],.i .i64 0,.s []] [],.sl false [.i .i64 0,.s [],.sl false [.s [],.i .i64 0,.s []] [],.i .i64 0,.s [],.i .i64 0,.s [],.s [],.i .i64 0,.s []] []] (p.Rules.map (c6.cells false false))])] [] (.tup [(false,[.i .i64 ((i4 p).1)]),(false,[.i .i64 ((i4 p).2)])]):=by
 refine sx' false false none Tryz.func336 a6r [.t 2,.t 3] [(333,[],a0U),(385,[],a7n),(387,[],a3H)] ?_
 intro hb hE
 simp only [go_sem];(repeat' first | apply CJ.mk | intro hc);all_goals try exact om'
 ·rw [a1f hc];exact ⟨rfl,rfl⟩
 have hB:m9 p=true:=hc
 clear hc
 refine lq' false [1,13,14] [2] [] (fun i:{i:Nat // i≤p.Decls.length∧∀ j,j < i→l8 p j=false}=>[(15,slV (.i .i64 i.1))]) nl' nl' (fun i=>p.Decls.length - i.1) (⟨0,by omega,by intro j h;omega⟩) ?_
 intro S0 hS0 i
 obtain ⟨n,hn,ha⟩:=i
 simp only [go_sem,hS0];(repeat' first | apply CJ.mk | intro hc);all_goals try exact om'
 ·rw [b9z] at hc
  have hq:l8 p n=true:=by rcases hc with (hc | hc) | hc<;>simp only [l8,pkB,fwB,hc,Bool.true_or,Bool.or_true]
  rw [a0o hB (by omega) ha hq];exact ⟨rfl,rfl⟩
 ·rw [b9z] at hc
  have hq:l8 p n=false:=by simp only [l8,pkB,fwB,hc,Bool.or_false]
  exact nx0 ⟨n+1,by omega,a3w ha hq⟩
 have hd:∀ j,j < p.Decls.length→l8 p j=false:=fun j hj=>ha j (by omega)
 clear hc ha
 refine lq' false [1,39,40] [2] [] (fun i:{i:Nat // i≤p.Rules.length∧∀ j,j < i→q0 p j=false}=>[(41,slV (.i .i64 i.1))]) nl' nl' (fun i=>p.Rules.length - i.1) (⟨0,by omega,by intro j h;omega⟩) ?_
 intro S1 hS1 i
 obtain ⟨n,hn,ha⟩:=i
 simp only [go_sem,hS0,hS1];(repeat' first | apply CJ.mk | intro hc);all_goals try exact om'
 ·exact c0n hB (by omega)
 ·have hq:q0 p n=true:=by
   simp only [bne,Bool.not_eq_true',beq_eq_false_iff_ne] at hc
   rw [q0,Bool.not_eq_true',beq_eq_false_iff_ne];exact hc
  rw [a1q hB hd (by omega) ha hq];exact ⟨rfl,rfl⟩
 ·have hq:q0 p n=false:=by
   simp only [bne,Bool.not_eq_false',beq_iff_eq] at hc
   rw [q0,Bool.not_eq_false',beq_iff_eq];exact hc
  exact nx1 ⟨n+1,by omega,a3w ha hq⟩
 ·rw [a6g hB hd (fun j hj=>ha j (by omega))];exact ⟨rfl,rfl⟩
noncomputable def a1Z:CT:=i3 (fun (x:c4)=>a7W x)
@[go_sem] def b9i:=fun x0 x1=>nm' (fQ' a1Z rfl ⟨x0,x1⟩)
end Go.Aw
