/- Names in programs. No condition. -/
import Derived.Test.YtokefohpgeajaaaGreatwaG3
import Derived.Test.YtokefohpgeajaaaGreatqBx10wa
namespace Go.Aw
open Go.Proofs
attribute [local irreducible] aft blk lpK retK AW A0d
set_option linter.all false
set_option maxRecDepth 100000
def pkB:List UInt8:=[112,97,99,107,101,116]
def fwB:List UInt8:=[102,111,114,119,97,114,100]
def a1z (p:c4) (name:List UInt8):Int:=bif name==pkB then 4 else bif name==fwB then 1 else bif a0i p name then (w7 p name).Arity else -1
def u7 (p:c4) (name:List UInt8):Int:=(w7 p name).Kind
def movB (p:c4) (name:List UInt8):Bool:=name==pkB || u7 p name==2
def i4 (r:c6):List d6:=r.Head::(r.Body.filter fun l=>!(l.Kind==3)).map c7.Atom
def a5b (p:c4) (l:c7):Bool:=!(l.Kind==3)&&movB p l.Atom.Name
def b4U (p:c4) (r:c6):Bool:=decide ((0:Int) < r.Body.length)&&(r.Body.getD 0 default).Kind==1&&(movB p (r.Body.getD 0 default).Atom.Name&&(!(r.Kind==1) || (r.Body.getD 0 default).Atom.Name==pkB))
def a7Q (p:c4) (r:c6):Bool:=bif !(r.Kind==1) || r.Head.Name==fwB then b4U p r&&!(r.Body.drop 1).any (a5b p) else !r.Body.any (a5b p)
def a1Z (p:c4) (a:d6):Bool:=decide (a1z p a.Name < 0)
def a2a (p:c4) (a:d6):Bool:=!(a1z p a.Name==(a.Args.length:Int))
def a7R (a:d6):Bool:=a.Name==fwB
def a1A (p:c4) (r:c6):Bool:=bif r.Kind==1 then !(u7 p r.Head.Name==3)&&!(r.Head.Name==fwB) else !(u7 p r.Head.Name==1)
def n9 (p:c4) (r:c6):Int:=bif (i4 r).any (a1Z p) then 3 else bif (i4 r).any (a2a p) then 4 else bif a1A p r then 5 else bif ((i4 r).drop 1).any a7R then 6 else bif !a7Q p r then 7 else 0
def m8 (p:c4) (i:Nat):Bool:=(p.Decls.getD i default).Name==pkB || (p.Decls.getD i default).Name==fwB || (p.Decls.take i).any fun x=>x.Name==(p.Decls.getD i default).Name
def p6 (p:c4) (i:Nat):Bool:=!(n9 p (p.Rules.getD i default)==0)
def f9 (p:c4):Int×Int:=
 bif !n8 p then (1,0) else
 if a1q p.Decls.length (m8 p) < p.Decls.length then (2,(a1q p.Decls.length (m8 p):Int)) else
 if a1q p.Rules.length (p6 p) < p.Rules.length then (n9 p (p.Rules.getD (a1q p.Rules.length (p6 p)) default),(a1q p.Rules.length (p6 p):Int)) else (0,0)
def atB (l:c7):Bool:=!(l.Kind==3)
def a5H (r:c6):(i4 r).length<=r.Body.length+1:=by
 have:=a7O (fun l:c7=>!(l.Kind==3)) c7.Atom r.Body;simp only [i4,W9];omega
def a3Z (r:c6):1<=(i4 r).length:=by simp [i4]
def b0m (r:c6):i4 r=r.Head::(r.Body.filter atB).map c7.Atom:=rfl
def b0M (p:c4) (name:List UInt8):spZ 218 [(true,[k6 p.Decls,j9 p.Rules]),(false,[.s name])] [] (.one (false,[.i .i64 (a1z p name)])):=by
 refine sy' Tryz.func218 (q' 2 [ao (.box 2 (.t 0)),az 4 0] (.seq (q' 7 [am 1] (.block 0 (q' 9 [ao (.bin .eql (.t 7) (.k (.v false [.c (.s [112,97,99,107,101,116])]))),aV 8] (.cond (.t 8) (q' 4 [aK 4] .ret) (q' 11 [ao (.bin .eql (.t 7) (.k (.v false [.c (.s [102,111,114,119,97,114,100])]))),aV 10] (.cond (.t 10) (q' 4 [aK 1] .ret) .skip)))))) (q' 13 [ae 2 2,am 1,ac 104 [13,14],aV 12,ao (.ext (.t 12) 0),ao (.ext (.t 12) 1),ax (w' 5 [.i .i64,.s,.i .i64]),aS 3 5 16,aV 6] (.seq (q' 18 [am 6,ao (.not (.t 18))] (.cond (.t 19) (q' 4 [ao (.mov (.k (.v false [.c (.i .i64 (-1))])))] .ret) .skip)) (q' 20 [aG 2 5,aV 4] .ret))))) [.t 4] [(104,[],a2w)] ?_;intro hb hE;simp only [go_sem];repeat' first|apply cj'|intro hc|exact om'|fail
 all_goals simp only [a1z,pkB,fwB, *,W7,W8]
noncomputable def a1I:CT:=i8 (fun (x:c4×(List UInt8))=>b0M x.1 x.2)
@[go_sem] def b7D:=fun x0 x1 x2=>nm' (fQ' a1I rfl (⟨x0,x1⟩,x2))
def b1V (p:c4) (name:List UInt8):spZ 46 [(true,[k6 p.Decls,j9 p.Rules]),(false,[.s name])] [] (.one (false,[.i .i64 (u7 p name)])):=by
 refine sy' Tryz.func46 (q' 2 [ao (.box 2 (.t 0)),az 4 0] (q' 8 [ae 2 2,am 1,ac 104 [8,9],aV 7,ao (.ext (.t 7) 0),ao (.ext (.t 7) 1),ax (w' 5 [.i .i64,.s,.i .i64]),aS 3 5 11,aV 6] (q' 13 [aG 0 5,aV 4] .ret))) [.t 4] [(104,[],a2w)] ?_;intro hb hE;simp only [go_sem];repeat' first|apply cj'|intro hc|exact om'|fail
 all_goals (first|rfl)
noncomputable def u4:CT:=i8 (fun (x:c4×(List UInt8))=>b1V x.1 x.2)
@[go_sem] def b9c:=fun x0 x1 x2=>nm' (fQ' u4 rfl (⟨x0,x1⟩,x2))
def a7H:OkC Tryz.prog 46 u4:=a2i _
def b0P (p:c4) (name:List UInt8):spZ 286 [(true,[k6 p.Decls,j9 p.Rules]),(false,[.s name])] [] (.one (false,[.b (movB p name)])):=by
 refine sy' Tryz.func286 (q' 2 [ao (.box 2 (.t 0)),ab 4 false] (q' 5 [am 1,ao (.bin .eql (.t 5) (.k (.v false [.c (.s [112,97,99,107,101,116])]))),am 6,au (.ld true 2 (.t 2)) 7 false,au (.mov (.t 1)) 7 false,au (.call 46 [.t 8,.t 9]) 7 false,au (.bin .eql (.t 10) (k' 2)) 7 false,ao (.pick (.t 7) (bb true) (.t 11)),aV 4] .ret)) [.t 4] [(46,[],u4)] ?_;intro hb hE;simp only [go_sem];repeat' first|apply cj'|intro hc|exact om'|fail
 all_goals (first|rfl)
noncomputable def a1K:CT:=i8 (fun (x:c4×(List UInt8))=>b0P x.1 x.2)
@[go_sem] def b7G:=fun x0 x1 x2=>nm' (fQ' a1K rfl (⟨x0,x1⟩,x2))
def b0N (r:c6) (hpre:r.Body.length<=8):spZ 107 [(true,[.i .i64 r.Kind,.s r.Head.Name,l3 r.Head.Args,z9 r.Body])] [] (.one (false,[c1i (i4 r)])):=by
 refine sy' Tryz.func107 (q' 1 [ao (.box 4 (.t 0)),ao (.mov (.k (.v false [.nl a8r])))] (q' 6 [af 1 1,aE 2,ao (.bsl 2 1 [.s,.sl j6] [(0,.t 7)]),aV 3] (.seq (q' 9 [aG 3 1,aN,aK 0] (.block 0 (.loop (q' 13 [ar 12 11] (.seq (.cond (.t 13) .skip (.exit 0)) (.seq (.block 1 (q' 14 [ai 10 10 12,aE 10,ax (w' 5 [.i .i64,.s,.sl j6,.i .i64,.s,.i .i64,.s,.s,.i .i64,.s]),aS 10 5 15] (q' 16 [aG 0 5,ao (.bin .neq (.t 17) (k' 3))] (.cond (.t 18) (g' 19 [am 3,af 1 5,aE 2,ao (.bsl 2 1 [.s,.sl j6] [(0,.t 21)]),ao (.app 2 40 [.s,.sl j6] (.t 19) (.t 22)),aV 3]) .skip)))) (g' 24 [aA 12]))))))) (q' 25 [am 3,aV 2] .ret)))) [.t 2] [] ?_;intro hb hE;simp only [go_sem];repeat' first|apply cj'|intro hc|exact om'|fail
 refine lk' false [(false,3,0,100006)] [10,11] [] [] (fun i:{i:Nat // i<=r.Body.length}=>[(3,.v false [.ow 100006]),(12,slV (.i .i64 i.1))]) nl' (fun i=>[(100006,a8r,(r.Head::((r.Body.take i.1).filter atB).map c7.Atom).map (d6.cells false false))]) (fun i=>r.Body.length - i.1) (⟨0,by simp⟩) ?_;intro S0 hS0 i;obtain ⟨i,hi⟩:=i;simp only [go_sem,hS0];repeat' first|apply cj'|intro hc|exact om'|fail
 ·have:=a7O atB c7.Atom (r.Body.take i);simp at this;omega
 ·have hp:atB (r.Body.getD i default)=true:=hc
  (refine lpK_n2 (⟨i+1,by omega⟩) _ (by simp only [go_sem];try rfl) ?_;simp only [go_sem,hS0]<;>repeat' first|apply V0|exact on'|fail)
  all_goals (rw [a5J c7.Atom default (by omega) hp]<;>rfl)
 ·have hp:atB (r.Body.getD i default)=false:=hc
  (refine lpK_n2 (⟨i+1,by omega⟩) _ (by simp only [go_sem];try rfl) ?_;simp only [go_sem,hS0]<;>repeat' first|apply V0|exact on'|fail)
  all_goals (rw [b0F c7.Atom default (by omega) hp]<;>rfl)
 ·rw [g9 (by omega),b0m];rfl
noncomputable def a0B:CT:=u6 (fun (x:c6) h=>b0N x h)
@[go_sem] def b7E:=fun x0 x1 x2 x3=>nm' (fP' a0B rfl ⟨x0,⟨x1,x2⟩,x3⟩)
def a6B:OkC Tryz.prog 107 a0B:=a9E _
def a9x (p:c4) (name:List UInt8) (hpre:n8 p=true):spZ 190 [(true,[k6 p.Decls,j9 p.Rules]),(false,[.s name])] [] (.one (false,[.i .i64 (a1z p name)])):=by
 refine sy' Tryz.func190 (q' 2 [ao (.box 2 (.t 0)),az 4 0] (.seq (q' 6 [am 1,ao (.bin .eql (.t 6) (.k (.v false [.c (.s [112,97,99,107,101,116])])))] (.cond (.t 7) (q' 4 [aK 4] .ret) .skip)) (.seq (q' 8 [am 1,ao (.bin .eql (.t 8) (.k (.v false [.c (.s [102,111,114,119,97,114,100])])))] (.cond (.t 9) (q' 4 [aK 1] .ret) .skip)) (q' 10 [ae 2 2,am 1,ac 191 [10,11],ax (w' 5 [.i .i64,.s,.i .i64]),aS 3 5 12] (.seq (q' 13 [aG 0 5,ao (.bin .eql (.t 14) (k' 0))] (.cond (.t 15) (q' 4 [ao (.mov (.k (.v false [.c (.i .i64 (-1))])))] .ret) .skip)) (q' 16 [aG 2 5,aV 4] .ret)))))) [.t 4] [(191,[],a0H)] ?_;intro hb hE;simp only [go_sem];repeat' first|apply cj'|intro hc|exact om'|fail
 ·simp only [a1z,pkB,fwB, *,W7,W8]
 ·simp only [a1z,pkB,fwB, *,W7,W8]
 all_goals rw [b3p hpre] at hc
 ·rw [q1K] at hc;simp only [a1z,pkB,fwB, *,W7,W8]
 ·rw [q2E] at hc;simp only [a1z,pkB,fwB, *,W7,W8]
noncomputable def a3D:CT:=u6 (fun (x:c4×(List UInt8)) h=>a9x x.1 x.2 h)
@[go_sem] def b6U:=fun x0 x1 x2=>nm' (fP' a3D rfl (⟨x0,x1⟩,x2))
def a8e (p:c4) (name:List UInt8):spZ 192 [(true,[k6 p.Decls,j9 p.Rules]),(false,[.s name])] [] (.one (false,[.b (movB p name)])):=by
 refine sy' Tryz.func192 (q' 2 [ao (.box 2 (.t 0)),ab 4 false] (q' 5 [am 1,ao (.bin .eql (.t 5) (.k (.v false [.c (.s [112,97,99,107,101,116])]))),am 6,au (.ld true 2 (.t 2)) 7 false,au (.mov (.t 1)) 7 false,au (.call 191 [.t 8,.t 9]) 7 false,au (.fl false 0 1 (.t 10)) 7 false,au (.bin .eql (.t 11) (k' 2)) 7 false,ao (.pick (.t 7) (bb true) (.t 12)),aV 4] .ret)) [.t 4] [(191,[],a0H)] ?_;intro hb hE;simp only [go_sem];repeat' first|apply cj'|intro hc|exact om'|fail
 all_goals (first|rfl)
noncomputable def a2T:CT:=i8 (fun (x:c4×(List UInt8))=>a8e x.1 x.2)
@[go_sem] def b6a:=fun x0 x1 x2=>nm' (fQ' a2T rfl (⟨x0,x1⟩,x2))
def a9y (r:c6) (hpre:r.Body.length<=8):spZ 189 [(true,[.i .i64 r.Kind,.s r.Head.Name,l3 r.Head.Args,z9 r.Body])] [] (.one (false,[c1i (i4 r)])):=by
 refine sy' Tryz.func189 (q' 1 [ao (.box 4 (.t 0)),ao (.mov (.k (.v false [.nl a8r])))] (q' 5 [af 1 1,aE 2,ao (.bsl 2 1 [.s,.sl j6] [(0,.t 6)]),aV 3] (.seq (q' 8 [aG 3 1,aN,aK 0] (.block 0 (.loop (q' 12 [ar 11 10] (.seq (.cond (.t 12) .skip (.exit 0)) (.seq (.block 1 (q' 13 [am 11,aV 4] (q' 14 [aG 3 1,am 4,aI 10,aG 0 17,ao (.bin .neq (.t 19) (k' 3))] (.cond (.t 20) (g' 21 [am 3,aG 3 1,am 4,aI 10,aF 1,aE 2,ao (.bsl 2 1 [.s,.sl j6] [(0,.t 27)]),ao (.app 2 40 [.s,.sl j6] (.t 21) (.t 28)),aV 3]) .skip)))) (g' 30 [aA 11]))))))) (q' 31 [am 3,aV 2] .ret)))) [.t 2] [] ?_;intro hb hE;simp only [go_sem];repeat' first|apply cj'|intro hc|exact om'|fail
 refine lk' false [(false,3,0,100006)] [1,10] [2] [] (fun i:{i:Nat // i<=r.Body.length}=>[(3,.v false [.ow 100006]),(11,slV (.i .i64 i.1))]) nl' (fun i=>[(100006,a8r,(r.Head::((r.Body.take i.1).filter atB).map c7.Atom).map (d6.cells false false))]) (fun i=>r.Body.length - i.1) (⟨0,by simp⟩) ?_;intro S0 hS0 i;obtain ⟨i,hi⟩:=i;simp only [go_sem,hS0];repeat' first|apply cj'|intro hc|exact om'|fail
 ·have:=a7O atB c7.Atom (r.Body.take i);simp at this;omega
 ·have hp:atB (r.Body.getD i default)=true:=hc
  (refine lpK_n2 (⟨i+1,by omega⟩) _ (by simp only [go_sem];try rfl) ?_;simp only [go_sem,hS0]<;>repeat' first|apply V0|exact on'|fail)
  all_goals (rw [a5J c7.Atom default (by omega) hp]<;>rfl)
 ·have hp:atB (r.Body.getD i default)=false:=hc
  (refine lpK_n2 (⟨i+1,by omega⟩) _ (by simp only [go_sem];try rfl) ?_;simp only [go_sem,hS0]<;>repeat' first|apply V0|exact on'|fail)
  all_goals (rw [b0F c7.Atom default (by omega) hp]<;>rfl)
 ·rw [g9 (by omega),b0m];rfl
noncomputable def a3E:CT:=u6 (fun (x:c6) h=>a9y x h)
@[go_sem] def b6V:=fun x0 x1 x2 x3=>nm' (fP' a3E rfl ⟨x0,⟨x1,x2⟩,x3⟩)
def b0H {p:c4} (h:n8 p=true) {r:c6} (hr:r∈p.Rules):r.Body.length<=8:=by
 simp only [n8,W3,q0W] at h;have:=h.2 r hr;simp only [j4,W3,V4] at this;omega
def a4I (l:c7) (p:c4):spZ 287 [(true,[.i .i64 l.Kind,.s l.Atom.Name,l3 l.Atom.Args,.i .i64 l.Op,.s l.A.Var,.i .i64 l.A.Val.N,.s l.A.Val.S,.s l.B.Var,.i .i64 l.B.Val.N,.s l.B.Val.S]),(false,[.p [k6 p.Decls,j9 p.Rules]])] [] (.one (false,[.b (a5b p l)])):=by
 refine sy' Tryz.func287 (q' 0 [ax (o' 2 (.box 10 (.t 0))),ab 3 false] (q' 4 [aG 0 2,ao (.bin .neq (.t 5) (k' 3)),am 6,au (.ld true 2 (.t 1)) 7 true,au (.fa 1 (.t 2)) 7 true,au (.fa 0 (.t 9)) 7 true,au (.ld false 1 (.t 10)) 7 true,au (.call 286 [.t 8,.t 11]) 7 true,ao (.pick (.t 7) (.t 12) (bb false)),aV 3] .ret)) [.t 3] [(286,[],a1K)] ?_;intro hb hE;simp only [go_sem];repeat' first|apply cj'|intro hc|exact om'|fail
 all_goals (first|rfl)
noncomputable def a1e:CT:=i8 (fun (x:c7×c4)=>a4I x.1 x.2)
@[go_sem] def b2v:=fun x0 x1 x2 x3 x4 x5 x6 x7 x8 x9 x10 x11=>nm' (fQ' a1e rfl (⟨x0,⟨x1,x2⟩,x3,⟨x4,⟨x5,x6⟩⟩,⟨x7,⟨x8,x9⟩⟩⟩,⟨x10,x11⟩))
def b3w (l:List c7) (p:c4):spZ 241 [(false,[z9 l]),(false,[.f 287 [.p [k6 p.Decls,j9 p.Rules]]])] [] (.one (false,[.i .i64 (a2D (fun y=>a5b p y) l)])):=by
 refine sy' Tryz.func241 b2m [.t 4] [(287,[],a1e)] ?_;intro hb hE;simp only [go_sem];repeat' first|apply cj'|intro hc|exact om'|fail
 refine lq' false [0,1,7] [] [] (fun i:{i:Nat // i<=l.length/\(l.take i).any (fun y=>a5b p y)=false}=>[(8,slV (.i .i64 i.1))]) nl' nl' (fun i=>l.length - i.1) (⟨0,by simp⟩) ?_;intro S0 hS0 i;obtain ⟨i,hi,ha⟩:=i;simp only [go_sem,hS0];repeat' first|apply cj'|intro hc|exact om'|fail
 ·exact (s5 (p:=fun y=>a5b p y) (d:=default) (by omega) ha (by simpa [-List.getD_eq_getElem?_getD] using hc)).symm
 ·exact nx0 ⟨i+1,by omega,m9 (p:=fun y=>a5b p y) default (by omega) ha (by simpa [-List.getD_eq_getElem?_getD] using hc)⟩
 ·exact (s4 (by rwa [g9 (by omega)] at ha)).symm
noncomputable def a6x:CT:=i8 (fun (x:(List c7)×c4)=>b3w x.1 x.2)
@[go_sem] def c0e:=fun l x0 x1=>nm' (fQ' a6x rfl (l,⟨x0,x1⟩))
def b3t (l:List c7) (p:c4):spZ 146 [(false,[z9 l]),(false,[.f 287 [.p [k6 p.Decls,j9 p.Rules]]])] [] (.one (false,[.b (l.any (fun y=>a5b p y))])):=by
 refine sy' Tryz.func146 b2l [.t 4] [(241,[],a6x)] ?_;intro hb hE;simp only [go_sem];repeat' first|apply cj'|intro hc|exact om'|fail
 ·exact a0K _ _
noncomputable def a6u:CT:=i8 (fun (x:(List c7)×c4)=>b3t x.1 x.2)
@[go_sem] def c0b:=fun l x0 x1=>nm' (fQ' a6u rfl (l,⟨x0,x1⟩))
def a5O (p:c4) (r:c6):spZ 221 [(true,[k6 p.Decls,j9 p.Rules]),(true,[.i .i64 r.Kind,.s r.Head.Name,l3 r.Head.Args,z9 r.Body])] [] (.one (false,[.b (a7Q p r)])):=by
 refine sy' Tryz.func221 (q' 2 [ao (.box 2 (.t 0)),ao (.box 4 (.t 1)),ao (.mov (bb false))] (q' 7 [aG 3 3,aV 5] (.seq (q' 9 [aG 0 3,ao (.bin .neq (.t 10) (k' 1)),am 11,au (.fa 1 (.t 3)) 12 false,au (.fa 0 (.t 13)) 12 false,au (.ld false 1 (.t 14)) 12 false,au (.bin .eql (.t 15) (.k (.v false [.c (.s [102,111,114,119,97,114,100])]))) 12 false,ao (.pick (.t 12) (bb true) (.t 16))] (.cond (.t 17) (.seq (q' 18 [am 5,aN,ao (.bin .eql (.t 19) (k' 0)),am 20,au (.mov (.t 5)) 21 false,au (.ia 10 (.t 22) (k' 0)) 21 false,au (.fa 0 (.t 23)) 21 false,au (.ld false 1 (.t 24)) 21 false,au (.bin .neq (.t 25) (k' 1)) 21 false,ao (.pick (.t 21) (bb true) (.t 26))] (.cond (.t 27) (q' 0 [ab 4 false] .ret) .skip)) (q' 28 [am 5,ao (.ia 10 (.t 28) (k' 0)),aF 1,aG 0 30,aV 6] (.seq (q' 33 [am 6,ao (.bin .neq (.t 33) (.k (.v false [.c (.s [112,97,99,107,101,116])]))),am 34,au (.fa 0 (.t 3)) 35 true,au (.ld false 1 (.t 36)) 35 true,au (.bin .eql (.t 37) (k' 1)) 35 true,au (.mov (.t 38)) 35 true,au (.ld true 2 (.t 2)) 39 false,au (.mov (.t 6)) 39 false,au (.call 286 [.t 40,.t 41]) 39 false,au (.not (.t 42)) 39 false,au (.pick (.t 39) (bb true) (.t 43)) 35 true,ao (.pick (.t 35) (.t 44) (bb false))] (.cond (.t 45) (q' 0 [ab 4 false] .ret) .skip)) (g' 46 [am 5,ao (.slc 10 (.t 46) (some (k' 1)) none none),aV 5])))) .skip)) (q' 48 [am 5,ao (.mf 287 [.t 2]),ac 146 [48,49],ao (.not (.t 50)),aV 4] .ret)))) [.t 4] [(286,[],a1K),(146,[],a6u)] ?_;intro hb hE;simp only [go_sem];repeat' first|apply cj'|intro hc|exact om'|fail
 all_goals (try simp only [m7] at *)
 all_goals (clear hb)
 all_goals (first|(simp at hc;omega)|grind [a7Q,b4U,pkB,fwB,movB])
noncomputable def a0s:CT:=i8 (fun (x:c4×c6)=>a5O x.1 x.2)
@[go_sem] def b3W:=fun x0 x1 x2 x3 x4 x5=>nm' (fQ' a0s rfl (⟨x0,x1⟩,⟨x2,⟨x3,x4⟩,x5⟩))
def a3N:OkC Tryz.prog 221 a0s:=a2i _
def a6R (a:d6) (p:c4):spZ 217 [(true,[.s a.Name,l3 a.Args]),(false,[.p [k6 p.Decls,j9 p.Rules]])] [] (.one (false,[.b (a1Z p a)])):=by
 refine sy' Tryz.func217 (q' 0 [ax (o' 2 (.box 2 (.t 0))),ab 3 false] (q' 4 [ae 2 1,aG 0 2,ac 218 [4,6],ao (.bin .lss (.t 7) (k' 0)),aV 3] .ret)) [.t 3] [(218,[],a1I)] ?_;intro hb hE;simp only [go_sem];repeat' first|apply cj'|intro hc|exact om'|fail
 all_goals (first|rfl)
noncomputable def a2c:CT:=i8 (fun (x:d6×c4)=>a6R x.1 x.2)
@[go_sem] def b4z:=fun x0 x1 x2 x3=>nm' (fQ' a2c rfl (⟨x0,x1⟩,⟨x2,x3⟩))
def a6S (a:d6) (p:c4):spZ 219 [(true,[.s a.Name,l3 a.Args]),(false,[.p [k6 p.Decls,j9 p.Rules]])] [] (.one (false,[.b (a2a p a)])):=by
 refine sy' Tryz.func219 (q' 0 [ax (o' 2 (.box 2 (.t 0))),ab 3 false] (.seq (G' 4 [ae 2 1,aG 0 2,ac 218 [4,6],aG 1 2,aN,ao (.bin .neq (.t 7) (.t 10)),aV 3]) .ret)) [.t 3] [(218,[],a1I)] ?_;intro hb hE;simp only [go_sem];repeat' first|apply cj'|intro hc|exact om'|fail
 all_goals (first|rfl)
noncomputable def a2d:CT:=i8 (fun (x:d6×c4)=>a6S x.1 x.2)
@[go_sem] def b4A:=fun x0 x1 x2 x3=>nm' (fQ' a2d rfl (⟨x0,x1⟩,⟨x2,x3⟩))
def a6T (a:d6):spZ 220 [(true,[.s a.Name,l3 a.Args])] [] (.one (false,[.b (a7R a)])):=by
 refine sy' Tryz.func220 (q' 0 [ax (o' 1 (.box 2 (.t 0))),ab 2 false] (q' 3 [aG 0 1,ao (.bin .eql (.t 4) (.k (.v false [.c (.s [102,111,114,119,97,114,100])]))),aV 2] .ret)) [.t 2] [] ?_;intro hb hE;simp only [go_sem];repeat' first|apply cj'|intro hc|exact om'|fail
 all_goals (first|rfl)
noncomputable def a2e:CT:=i8 (fun (x:d6)=>a6T x)
@[go_sem] def b4B:=fun x0 x1=>nm' (fQ' a2e rfl ⟨x0,x1⟩)
@[go_sem] def a5w:ACode:=q' 4 [aK 0] (.seq (q' 6 [am 0,aN,aK 0] (.block 0 (.loop (q' 9 [ar 8 7] (.seq (.cond (.t 9) .skip (.exit 0)) (.seq (.block 1 (q' 10 [am 8,aV 5] (q' 11 [aM
 [1,0,5],aI 2,aE 2,ao (.callv (.t 11) [.t 15])] (.cond (.t 16) (q' 17 [am 5,aV 4] .ret) .skip)))) (g' 18 [aA 8]))))))) (q' 4 [ao (.mov (.k (.v false [.c (.i
 .i64 (-1))])))] .ret))
def b5e (l:List d6) (p:c4):spZ 285 [(false,[a3o l]),(false,[.f 217 [.p [k6 p.Decls,j9 p.Rules]]])] [] (.one (false,[.i .i64 (a2D (fun y=>a1Z p y) l)])):=by
 refine sy' Tryz.func285 a5w [.t 4] [(217,[],a2c)] ?_;intro hb hE;simp only [go_sem];repeat' first|apply cj'|intro hc|exact om'|fail
 refine lq' false [0,1,7] [] [] (fun i:{i:Nat // i<=l.length/\(l.take i).any (fun y=>a1Z p y)=false}=>[(8,slV (.i .i64 i.1))]) nl' nl' (fun i=>l.length - i.1) (⟨0,by simp⟩) ?_;intro S0 hS0 i;obtain ⟨i,hi,ha⟩:=i;simp only [go_sem,hS0];repeat' first|apply cj'|intro hc|exact om'|fail
 ·exact (s5 (p:=fun y=>a1Z p y) (d:=default) (by omega) ha (by simpa [-List.getD_eq_getElem?_getD] using hc)).symm
 ·exact nx0 ⟨i+1,by omega,m9 (p:=fun y=>a1Z p y) default (by omega) ha (by simpa [-List.getD_eq_getElem?_getD] using hc)⟩
 ·exact (s4 (by rwa [g9 (by omega)] at ha)).symm
noncomputable def a8z:CT:=i8 (fun (x:(List d6)×c4)=>b5e x.1 x.2)
@[go_sem] def c0T:=fun l x0 x1=>nm' (fQ' a8z rfl (l,⟨x0,x1⟩))
@[go_sem] def a5v:ACode:=q' 0 [ab 4 false] (q' 5 [aM [0,1],ac 285 [5,6],ao (.bin .geq (.t 7) (k' 0)),aV 4] .ret)
def b5b (l:List d6) (p:c4):spZ 216 [(false,[a3o l]),(false,[.f 217 [.p [k6 p.Decls,j9 p.Rules]]])] [] (.one (false,[.b (l.any (fun y=>a1Z p y))])):=by
 refine sy' Tryz.func216 a5v [.t 4] [(285,[],a8z)] ?_;intro hb hE;simp only [go_sem];repeat' first|apply cj'|intro hc|exact om'|fail
 ·exact a0K _ _
noncomputable def a4e:CT:=i8 (fun (x:(List d6)×c4)=>b5b x.1 x.2)
@[go_sem] def b0r:=fun l x0 x1=>nm' (fQ' a4e rfl (l,⟨x0,x1⟩))
def b0s:OkC Tryz.prog 216 a4e:=a2i _
def b5f (l:List d6) (p:c4):spZ 285 [(false,[a3o l]),(false,[.f 219 [.p [k6 p.Decls,j9 p.Rules]]])] [] (.one (false,[.i .i64 (a2D (fun y=>a2a p y) l)])):=by
 refine sy' Tryz.func285 a5w [.t 4] [(219,[],a2d)] ?_;intro hb hE;simp only [go_sem];repeat' first|apply cj'|intro hc|exact om'|fail
 refine lq' false [0,1,7] [] [] (fun i:{i:Nat // i<=l.length/\(l.take i).any (fun y=>a2a p y)=false}=>[(8,slV (.i .i64 i.1))]) nl' nl' (fun i=>l.length - i.1) (⟨0,by simp⟩) ?_;intro S0 hS0 i;obtain ⟨i,hi,ha⟩:=i;simp only [go_sem,hS0];repeat' first|apply cj'|intro hc|exact om'|fail
 ·exact (s5 (p:=fun y=>a2a p y) (d:=default) (by omega) ha (by simpa [-List.getD_eq_getElem?_getD] using hc)).symm
 ·exact nx0 ⟨i+1,by omega,m9 (p:=fun y=>a2a p y) default (by omega) ha (by simpa [-List.getD_eq_getElem?_getD] using hc)⟩
 ·exact (s4 (by rwa [g9 (by omega)] at ha)).symm
noncomputable def a8A:CT:=i8 (fun (x:(List d6)×c4)=>b5f x.1 x.2)
@[go_sem] def c0U:=fun l x0 x1=>nm' (fQ' a8A rfl (l,⟨x0,x1⟩))
def b5c (l:List d6) (p:c4):spZ 216 [(false,[a3o l]),(false,[.f 219 [.p [k6 p.Decls,j9 p.Rules]]])] [] (.one (false,[.b (l.any (fun y=>a2a p y))])):=by
 refine sy' Tryz.func216 a5v [.t 4] [(285,[],a8A)] ?_;intro hb hE;simp only [go_sem];repeat' first|apply cj'|intro hc|exact om'|fail
 ·exact a0K _ _
noncomputable def a4f:CT:=i8 (fun (x:(List d6)×c4)=>b5c x.1 x.2)
@[go_sem] def b0t:=fun l x0 x1=>nm' (fQ' a4f rfl (l,⟨x0,x1⟩))
def b0u:OkC Tryz.prog 216 a4f:=a2i _
def b5g (l:List d6):spZ 285 [(false,[a3o l]),(false,[.f 220 []])] [] (.one (false,[.i .i64 (a2D (fun y=>a7R y) l)])):=by
 refine sy' Tryz.func285 a5w [.t 4] [(220,[],a2e)] ?_;intro hb hE;simp only [go_sem];repeat' first|apply cj'|intro hc|exact om'|fail
 refine lq' false [0,1,7] [] [] (fun i:{i:Nat // i<=l.length/\(l.take i).any (fun y=>a7R y)=false}=>[(8,slV (.i .i64 i.1))]) nl' nl' (fun i=>l.length - i.1) (⟨0,by simp⟩) ?_;intro S0 hS0 i;obtain ⟨i,hi,ha⟩:=i;simp only [go_sem,hS0];repeat' first|apply cj'|intro hc|exact om'|fail
 ·exact (s5 (p:=fun y=>a7R y) (d:=default) (by omega) ha (by simpa [-List.getD_eq_getElem?_getD] using hc)).symm
 ·exact nx0 ⟨i+1,by omega,m9 (p:=fun y=>a7R y) default (by omega) ha (by simpa [-List.getD_eq_getElem?_getD] using hc)⟩
 ·exact (s4 (by rwa [g9 (by omega)] at ha)).symm
noncomputable def a8B:CT:=i8 (fun (x:(List d6))=>b5g x)
@[go_sem] def c0V:=fun l=>nm' (fQ' a8B rfl l)
def b5d (l:List d6):spZ 216 [(false,[a3o l]),(false,[.f 220 []])] [] (.one (false,[.b (l.any (fun y=>a7R y))])):=by
 refine sy' Tryz.func216 a5v [.t 4] [(285,[],a8B)] ?_;intro hb hE;simp only [go_sem];repeat' first|apply cj'|intro hc|exact om'|fail
 ·exact a0K _ _
noncomputable def a4g:CT:=i8 (fun (x:(List d6))=>b5d x)
@[go_sem] def b0v:=fun l=>nm' (fQ' a4g rfl l)
def b0w:OkC Tryz.prog 216 a4g:=a2i _
noncomputable def s9:CT:=(ctO a4e (ctO a4f a4g))
@[go_sem] def b3X (l:List d6) (x0:List d3) (x1:List c6):s9 [(false,[a3o l]),(false,[.f 217 [.p [k6 x0,j9 x1]]])]=some (True,[],.one (false,[.b (l.any (fun y=>a1Z (c4.mk x0 x1) y))])):=b4M (b0r l x0 x1)
@[go_sem] def b3Y (l:List d6) (x0:List d3) (x1:List c6):s9 [(false,[a3o l]),(false,[.f 219 [.p [k6 x0,j9 x1]]])]=some (True,[],.one (false,[.b (l.any (fun y=>a2a (c4.mk x0 x1) y))])):=(b0z (a7N (fun x h=>by simp only [W6,W1,C.i.injEq,C.s.injEq,C.b.injEq,C.sl.injEq,C.p.injEq,C.mp.injEq,C.f.injEq,reduceCtorEq,q1L,Nat.reduceEqDiff,Bool.true_eq_false,q0M,q0C,false_and,and_false] at h))).trans (b4M (b0t l x0 x1))
@[go_sem] def b3Z (l:List d6):s9 [(false,[a3o l]),(false,[.f 220 []])]=some (True,[],.one (false,[.b (l.any (fun y=>a7R y))])):=(b0z (a7N (fun x h=>by simp only [W6,W1,C.i.injEq,C.s.injEq,C.b.injEq,C.sl.injEq,C.p.injEq,C.mp.injEq,C.f.injEq,reduceCtorEq,q1L,Nat.reduceEqDiff,Bool.true_eq_false,q0M,q0C,false_and,and_false] at h))).trans ((b0z (a7N (fun x h=>by simp only [W6,W1,C.i.injEq,C.s.injEq,C.b.injEq,C.sl.injEq,C.p.injEq,C.mp.injEq,C.f.injEq,reduceCtorEq,q1L,Nat.reduceEqDiff,Bool.true_eq_false,q0M,q0C,false_and,and_false] at h))).trans (b0v l))
def a3O:OkC Tryz.prog 216 s9:=(c1b b0s (c1b b0u b0w))
def a9p (p:c4) (r:c6) (hpre:r.Body.length<=8):spZ 117 [(true,[k6 p.Decls,j9 p.Rules]),(true,[.i .i64 r.Kind,.s r.Head.Name,l3 r.Head.Args,z9 r.Body])] [] (.one (false,[.i .i64 (n9 p r)])):=by
 refine sy' Tryz.func117 (q' 2 [ao (.box 2 (.t 0)),ao (.box 4 (.t 1)),aK 0] (q' 8 [ae 4 3,ac 107 [8],aV 5] (.seq (q' 10 [am 5,ao (.mf 217 [.t 2]),ac 216 [10,11]] (.cond (.t 12) (q' 4 [aK 3] .ret) .skip)) (.seq (q' 13 [am 5,ao (.mf 219 [.t 2]),ac 216 [13,14]] (.cond (.t 15) (q' 4 [aK 4] .ret) .skip)) (q' 16 [ae 2 2,af 1 3,aG 0 17,ac 46 [16,19],aV 6] (q' 21 [am 6,ao (.bin .eql (.t 21) (k' 3)),am 22,au (.fa 1 (.t 3)) 23 false,au (.fa 0 (.t 24)) 23 false,au (.ld false 1 (.t 25)) 23 false,au (.bin .eql (.t 26) (.k (.v false [.c (.s [102,111,114,119,97,114,100])]))) 23 false,ao (.pick (.t 23) (bb true) (.t 27)),aV 7] (.seq (.block 0 (q' 30 [aG 0 3,ao (.bin .eql (.t 31) (k' 1)),am 32,au (.mov (.t 7)) 33 true,au (.not (.t 34)) 33 true,ao (.pick (.t 33) (.t 35) (bb false)),am 36,au (.fa 0 (.t 3)) 37 false,au (.ld false 1 (.t 38)) 37 false,au (.bin .neq (.t 39) (k' 1)) 37 false,au (.mov (.t 40)) 37 false,au (.mov (.t 6)) 41 true,au (.bin .neq (.t 42) (k' 1)) 41 true,au (.pick (.t 41) (.t 43) (bb false)) 37 false,ao (.pick (.t 37) (bb true) (.t 44)),aV 29] (.cond (.t 29) (q' 4 [aK 5] .ret) (q' 47 [am 5,ao (.slc 2 (.t 47) (some (k' 1)) none none),ao (.call 216 [.t 48,.k (.v false [.c (.f 220 [])])]),aV 46] (.cond (.t 46) (q' 4 [aK 6] .ret) (q' 51 [ae 2 2,ae 4 3,ac 221 [51,52],ao (.not (.t 53)),aV 50] (.cond (.t 50) (q' 4 [aK 7] .ret) .skip))))))) (q' 4 [aK 0] .ret)))))))) [.t 4] [(107,[],a0B),(216,[],s9),(46,[],u4),(221,[],a0s)] ?_ (hΓ:=⟨a6B,a3O,a7H,a3N,trivial⟩);intro hb hE;simp only [go_sem];repeat' first|apply cj'|intro hc|exact om'|fail
 all_goals (try simp only [m7] at *)
 all_goals (clear hb)
 all_goals (first|(have:=a3Z r;omega)|grind [n9,a1A,fwB])
noncomputable def a3z:CT:=u6 (fun (x:c4×c6) h=>a9p x.1 x.2 h)
@[go_sem] def b6M:=fun x0 x1 x2 x3 x4 x5=>nm' (fP' a3z rfl (⟨x0,x1⟩,⟨x2,⟨x3,x4⟩,x5⟩))
def a6p {α:Type} {q:α->Bool} {l:List α} {i:Nat} (d:α) (h:i < l.length) (hp:q (l.getD i d)=true):l.any q=true:=by
 rw [q2U];exact ⟨l.getD i d,by rw [o8 d h];exact q0Q h,hp⟩
def b8U {α:Type} {q:α->Bool} {l:List α} {i k:Nat} (d:α) (hk:k<=i) (h:i < l.length) (ha:((l.take i).drop k).any q=false) (hp:q (l.getD i d)=false):((l.take (i+1)).drop k).any q=false:=by
 rw [i6 d h,q3G (by rw [q0K];omega),q2A,ha];simp only [q3I,List.any_nil,hp,Bool.or_false]
def c0J {α:Type} {q:α->Bool} {l:List α} {i k:Nat} (d:α) (hk:k<=i) (h:i < l.length) (hp:q (l.getD i d)=true):(l.drop k).any q=true:=by
 rw [q2U];refine ⟨l.getD i d, ?_,hp⟩;rw [o8 d h,List.mem_drop_iff_getElem];exact ⟨i - k,by omega,by congr 1;omega⟩
def b1j (p:c4) (r:c6) (hpre:r.Body.length<=8/\n8 p=true):spZ 99 [(true,[k6 p.Decls,j9 p.Rules]),(true,[.i .i64 r.Kind,.s r.Head.Name,l3 r.Head.Args,z9 r.Body])] [] (.one (false,[.i .i64 (n9 p r)])):=by
 refine sy' Tryz.func99 (q' 2 [ao (.box 2 (.t 0)),ao (.box 4 (.t 1)),aK 0] (q' 15 [ae 4 3,ac 189 [15],aV 5] (.seq (q' 17 [am 5,aN,aK 0] (.block 0 (.loop (q' 20 [ar 19 18] (.seq (.cond (.t 20) .skip (.exit 0)) (.seq (.block 1 (q' 21 [ai 2 17 19,aE 2,ax (w' 7 [.s,.sl j6]),aS 2 7 22] (q' 23 [ae 2 2,aG 0 7,ac 190 [23,25],ao (.bin .lss (.t 26) (k' 0))] (.cond (.t 27) (q' 4 [aK 3] .ret) .skip)))) (g' 28 [aA 19]))))))) (.seq (q' 29 [am 5,aN,aK 0] (.block 2 (.loop (q' 32 [ar 31 30] (.seq (.cond (.t 32) .skip (.exit 2)) (.seq (.block 3 (q' 33 [ai 2 29 31,aE 2,ax (w' 9 [.s,.sl j6]),aS 2 9 34] (.seq (G' 35 [ae 2 2,aG 0 9,ac 190 [35,37],aG 1 9,aN,ao (.bin .neq (.t 38) (.t 41))]) (.cond (.t 42) (q' 4 [aK 4] .ret) .skip)))) (g' 43 [aA 31]))))))) (q' 44 [ae 2 2,af 1 3,aG 0 45,ac 191 [44,47],ao (.fl false 0 1 (.t 48)),aV 10] (.seq (q' 50 [aG 0 3,ao (.bin .eql (.t 51) (k' 1)),am 52,au (.mov (.t 10)) 53 true,au (.bin .neq (.t 54) (k' 3)) 53 true,ao (.pick (.t 53) (.t 55) (bb false)),am 56,au (.fa 1 (.t 3)) 57 true,au (.fa 0 (.t 58)) 57 true,au (.ld false 1 (.t 59)) 57 true,au (.bin .neq (.t 60) (.k (.v false [.c (.s [102,111,114,119,97,114,100])]))) 57 true,ao (.pick (.t 57) (.t 61) (bb false)),am 62,au (.fa 0 (.t 3)) 63 false,au (.ld false 1 (.t 64)) 63 false,au (.bin .neq (.t 65) (k' 1)) 63 false,au (.mov (.t 66)) 63 false,au (.mov (.t 10)) 67 true,au (.bin .neq (.t 68) (k' 1)) 67 true,au (.pick (.t 67) (.t 69) (bb false)) 63 false,ao (.pick (.t 63) (bb true) (.t 70))] (.cond (.t 71) (q' 4 [aK 5] .ret) .skip)) (.seq (q' 72 [am 5,ao (.slc 2 (.t 72) (some (k' 1)) none none),aN,aK 0] (.block 4 (.loop (q' 76 [ar 75 74] (.seq (.cond (.t 76) .skip (.exit 4)) (.seq (.block 5 (q' 77 [ai 2 73 75,aE 2,ax (w' 12 [.s,.sl j6]),aS 2 12 78] (q' 79 [aG 0 12,ao (.bin .eql (.t 80) (.k (.v false [.c (.s [102,111,114,119,97, 114,100])])))] (.cond (.t 81) (q' 4 [aK 6] .ret) .skip)))) (g' 82 [aA 75]))))))) (q' 13 [aK 0] (.seq (q' 83 [aG 0 3,ao (.bin .neq (.t 84) (k' 1)),am 85,au (.fa 1 (.t 3)) 86 false,au (.fa 0 (.t 87)) 86 false,au (.ld false 1 (.t 88)) 86 false,au (.bin .eql (.t 89) (.k (.v false [.c (.s [102,111,114,119,97, 114,100])]))) 86 false,ao (.pick (.t 86) (bb true) (.t 90))] (.cond (.t 91) (.seq (.seq (G' 92 [aG 3 3,aN,ao (.bin .eql (.t 94) (k' 0)),am 95,au (.fa 3 (.t 3)) 96 false,au (.ld false 1 (.t 97)) 96 false,au (.ia 10 (.t 98) (k' 0)) 96 false,au (.fa 0 (.t 99)) 96 false,au (.ld false 1 (.t 100)) 96 false,au (.bin .neq (.t 101) (k' 1)) 96 false,ao (.pick (.t 96) (bb true) (.t 102)),am 103,au (.ld true 2 (.t 2)) 104 false,au (.fa 3 (.t 3)) 104 false,au (.ld false 1 (.t 106)) 104 false,au (.ia 10 (.t 107) (k' 0)) 104 false,au (.fa 1 (.t 108)) 104 false,au (.fa 0 (.t 109)) 104 false,au (.ld false 1 (.t 110)) 104 false,au (.call 192 [.t 105,.t 111]) 104 false,au (.not (.t 112)) 104 false,ao (.pick (.t 104) (bb true) (.t 113))]) (.cond (.t 114) (q' 4 [aK 7] .ret) .skip)) (.seq (q' 115 [aG 0 3,ao (.bin .eql (.t 116) (k' 1)),am 117,au (.fa 3 (.t 3)) 118 true,au (.ld false 1 (.t 119)) 118 true,au (.ia 10 (.t 120) (k' 0)) 118 true,au (.fa 1 (.t 121)) 118 true,au (.fa 0 (.t 122)) 118 true,au (.ld false 1 (.t 123)) 118 true,au (.bin .neq (.t 124) (.k (.v false [.c (.s [112,97,99,107,101, 116])]))) 118 true,ao (.pick (.t 118) (.t 125) (bb false))] (.cond (.t 126) (q' 4 [aK 7] .ret) .skip)) (g' 13 [aK 1]))) .skip)) (.seq (q' 127 [am 13,aV 14] (.block 6 (.loop (.seq (q' 128 [am 14,aG 3 3,aN,ar 128 131] (.cond (.t 132) .skip (.exit 6))) (.seq (.block 7 (.seq (G' 135 [aG 3 3,am 14,aI 10,aG 0 138,ao (.bin .neq (.t 140) (k' 3)),am 141,au (.ld true 2 (.t 2)) 142 true,au (.fa 3 (.t 3)) 142 true,au (.ld false 1 (.t 144)) 142 true,au (.mov (.t 14)) 142 true,au (.ia 10 (.t 145) (.t 146)) 142 true,au (.fa 1 (.t 147)) 142 true,au (.fa 0 (.t 148)) 142 true,au (.ld false 1 (.t 149)) 142 true,au (.call 192 [.t 143,.t 150]) 142 true,ao (.pick (.t 142) (.t 151) (bb false))]) (.cond (.t 152) (q' 4 [aK 7] .ret) .skip))) (g' 133 [aB 14])))))) (q' 4 [aK 0] .ret))))))))))) [.t 4] [(189,[],a3E),(190,[],a3D),(191,[],a0H),(192,[],a2T)] ?_;intro hb hE;obtain ⟨hp8,hpB⟩:=hpre;have hA:=a5H r;have hA1:=a3Z r;simp only [go_sem,m7];repeat' first|apply cj'|intro hc|exact om'|fail
 refine lq' false [2,3,5,17,18] [4,6] [2048] (fun i:{i:Nat // i<=(i4 r).length/\((i4 r).take i).any (a1Z p)=false}=>[(19,slV (.i .i64 i.1))]) nl' nl' (fun i=>(i4 r).length - i.1) (⟨0,by simp⟩) ?_;intro S0 hS0 i;obtain ⟨i,hi,ha⟩:=i;simp only [go_sem,m7,hS0];repeat' first|apply cj'|intro hc|exact om'|fail
 ·rw [n9,a6p (q:=a1Z p) default (by omega) (V5 hc)];rfl
 ·(refine lpK_n2 (⟨i+1,by omega,m9 (p:=a1Z p) default (by omega) ha (V7 hc)⟩) _ rfl ?_;simp only [go_sem,m7,hS0]<;>repeat' first|apply V0|exact on'|fail)
 rw [g9 (by omega)] at ha;clear hc hi;refine lq' false [2,3,5,29,30] [4,6] [2048] (fun i:{i:Nat // i<=(i4 r).length/\((i4 r).take i).any (a2a p)=false}=>[(31,slV (.i .i64 i.1))]) nl' nl' (fun i=>(i4 r).length - i.1) (⟨0,by simp⟩) ?_;intro S1 hS1 i;obtain ⟨i,hi,hb1⟩:=i;simp only [go_sem,m7,hS0,hS1];repeat' first|apply cj'|intro hc|exact om'|fail
 ·rw [n9,ha,a6p (q:=a2a p) default (by omega) hc];rfl
 ·(refine lpK_n2 (⟨i+1,by omega,m9 (p:=a2a p) default (by omega) hb1 hc⟩) _ rfl ?_;simp only [go_sem,m7,hS0,hS1]<;>repeat' first|apply V0|exact on'|fail)
 ·rw [g9 (by omega)] at hb1;clear hb hS0 hS1
  grind [n9,a1A,u7,fwB]
 rw [g9 (by omega)] at hb1;have hk:a1A p r=false:=by
  clear hb hS0 hS1
  grind [a1A,u7,fwB]
 clear hc hi;refine lq' false [2,3,73,74] [4,6] [9344] (fun i:{i:Nat // i<=((i4 r).drop 1).length/\(((i4 r).drop 1).take i).any a7R=false}=>[(75,slV (.i .i64 i.1))]) nl' nl' (fun i=>((i4 r).drop 1).length - i.1) (⟨0,by simp⟩) ?_;intro S2 hS2 i;obtain ⟨i,hi,hf⟩:=i;have hD:((i4 r).drop 1).length<=8:=by rw [q1U];omega
 simp only [go_sem,m7,hS0,hS1,hS2];repeat' first|apply cj'|intro hc|exact om'|fail
 ·rw [n9,ha,hb1,hk,a6p (q:=a7R) default (by omega) hc];rfl
 ·(refine lpK_n2 (⟨i+1,by omega,m9 (p:=a7R) default (by omega) hf hc⟩) _ rfl ?_;simp only [go_sem,m7,hS0,hS1,hS2]<;>repeat' first|apply V0|exact on'|fail)
 all_goals (rw [g9 (by omega)] at hf)
 ·clear hb hS0 hS1 hS2;grind
 ·clear hb hS0 hS1 hS2;grind
 ·clear hb hS0 hS1 hS2;grind [n9,a7Q,b4U,pkB,fwB]
 ·clear hb hS0 hS1 hS2;grind
 ·clear hb hS0 hS1 hS2;grind [n9,a7Q,b4U,pkB,fwB]
 ·have hg:a7Q p r=!(r.Body.drop 1).any (a5b p):=by
   clear hb hS0 hS1 hS2;grind [a7Q,b4U,pkB,fwB]
  have h1:1<=r.Body.length:=by
   clear hb hS0 hS1 hS2;grind
  clear hc;refine lq' false [2,3] [4,6] [] (fun i:{i:Nat // 1<=i/\i<=r.Body.length/\((r.Body.take i).drop 1).any (a5b p)=false}=>[(14,slV (.i .i64 i.1))]) nl' nl' (fun i=>r.Body.length - i.1) (⟨1,by omega,by omega,by cases r.Body<;>rfl⟩) ?_;intro S3 hS3 i;obtain ⟨i,h1i,hi,hm⟩:=i;simp only [go_sem,m7,hS0,hS1,hS2,hS3];repeat' first|apply cj'|intro hc|exact om'|fail
  ·have:a7Q p r=false:=by rw [hg,c0J (q:=a5b p) (i:=i) default (by omega) (by omega) (Bool.and_eq_true_iff.2 hc)];rfl
   rw [n9,ha,hb1,hk,hf,this];rfl
  ·(refine lpK_n2 (⟨i+1,by omega,by omega,b8U (q:=a5b p) default (by omega) (by omega) hm hc⟩) _ rfl ?_;simp only [go_sem,m7,hS0,hS1,hS2,hS3]<;>repeat' first|apply V0|exact on'|fail)
  ·rw [g9 (by omega)] at hm;rw [hm] at hg;rw [n9,ha,hb1,hk,hf,hg];rfl
 ·have hg:a7Q p r=!r.Body.any (a5b p):=by
   clear hb hS0 hS1 hS2;grind [a7Q,fwB]
  clear hc;refine lq' false [2,3] [4,6] [] (fun i:{i:Nat // i<=r.Body.length/\(r.Body.take i).any (a5b p)=false}=>[(14,slV (.i .i64 i.1))]) nl' nl' (fun i=>r.Body.length - i.1) (⟨0,by omega,by simp⟩) ?_;intro S3 hS3 i;obtain ⟨i,hi,hm⟩:=i;simp only [go_sem,m7,hS0,hS1,hS2,hS3];repeat' first|apply cj'|intro hc|exact om'|fail
  ·have:a7Q p r=false:=by rw [hg,a6p (q:=a5b p) (i:=i) default (by omega) (Bool.and_eq_true_iff.2 hc)];rfl
   rw [n9,ha,hb1,hk,hf,this];rfl
  ·(refine lpK_n2 (⟨i+1,by omega,m9 (p:=a5b p) default (by omega) hm hc⟩) _ rfl ?_;simp only [go_sem,m7,hS0,hS1,hS2,hS3]<;>repeat' first|apply V0|exact on'|fail)
  ·rw [g9 (by omega)] at hm;rw [hm] at hg;rw [n9,ha,hb1,hk,hf,hg];rfl
noncomputable def a4B:CT:=u6 (fun (x:c4×c6) h=>b1j x.1 x.2 h)
@[go_sem] def b8a:=fun x0 x1 x2 x3 x4 x5=>nm' (fP' a4B rfl (⟨x0,x1⟩,⟨x2,⟨x3,x4⟩,x5⟩))
def a8E (p:c4) (r:c6):0<=n9 p r:=by
 unfold n9;cases (i4 r).any (a1Z p)<;>cases (i4 r).any (a2a p)<;>cases a1A p r<;>cases ((i4 r).drop 1).any a7R<;>cases a7Q p r<;>decide
def a0n {p:c4} (h:n8 p=false):f9 p=(1,0):=by simp [f9,h]
def a0r {p:c4} (h:n8 p=true) {i:Nat} (hi:i < p.Decls.length) (ha:∀ j,j < i->m8 p j=false) (hq:m8 p i=true):f9 p=(2,(i:Int)):=by
 rw [f9,h,a4D ha hq hi,if_pos hi];rfl
def a1o {p:c4} (h:n8 p=true) (hd:∀ j,j < p.Decls.length->m8 p j=false) {i:Nat} (hi:i < p.Rules.length) (ha:∀ j,j < i->p6 p j=false) (hq:p6 p i=true):f9 p=(n9 p (p.Rules.getD i default),(i:Int)):=by
 rw [f9,h,a2j hd,if_neg (by omega),a4D ha hq hi,if_pos hi];rfl
def a5o {p:c4} (h:n8 p=true) (hd:∀ j,j < p.Decls.length->m8 p j=false) (ha:∀ j,j < p.Rules.length->p6 p j=false):f9 p=(0,0):=by
 rw [f9,h,a2j hd,if_neg (by omega),a2j ha,if_neg (by omega)];rfl
def a7c {q:Nat->Bool} {i:Nat} (h:∀ j,j < i->q j=false) (hi:q i=false):∀ j,j < i+1->q j=false:=by
 intro j hj;rcases Nat.lt_succ_iff_lt_or_eq.1 hj with h1|rfl
 ·exact h j h1
 ·exact hi
def b5A {p:c4} (h:n8 p=true) {i:Nat} (hi:i < p.Rules.length):(p.Rules.getD i default).Body.length<=8:=by
 rw [o8 default hi];exact b0H h (q0Q hi)
def a4Z (y:d3) (d:d3):spZ 116 [(true,[.i .i64 y.Kind,.s y.Name,.i .i64 y.Arity]),(false,[.p [.i .i64 d.Kind,.s d.Name,.i .i64 d.Arity]])] [] (.one (false,[.b (y.Name==d.Name)])):=by
 refine sy' Tryz.func116 (q' 0 [ax (o' 2 (.box 3 (.t 0))),ab 3 false] (q' 4 [aG 1 2,aG 1 1,ao (.bin .eql (.t 5) (.t 7)),aV 3] .ret)) [.t 3] [] ?_;intro hb hE;simp only [go_sem];repeat' first|apply cj'|intro hc|exact om'|fail
 all_goals (first|rfl)
noncomputable def a1v:CT:=i8 (fun (x:d3×d3)=>a4Z x.1 x.2)
@[go_sem] def b3h:=fun x0 x1 x2 x3 x4 x5=>nm' (fQ' a1v rfl (⟨x0,x1,x2⟩,⟨x3,x4,x5⟩))
def b3u (l:List d3) (d:d3):spZ 215 [(false,[k6 l]),(false,[.f 116 [.p [.i .i64 d.Kind,.s d.Name,.i .i64 d.Arity]]])] [] (.one (false,[.i .i64 (a2D (fun y:d3=>y.Name==d.Name) l)])):=by
 refine sy' Tryz.func215 (q' 4 [aK 0] (.seq (q' 6 [am 0,aN,aK 0] (.block 0 (.loop (q' 9 [ar 8 7] (.seq (.cond (.t 9) .skip (.exit 0)) (.seq (.block 1 (q' 10 [am 8,aV 5] (q' 11 [aM [1,0,5],aI 3,aE 3,ao (.callv (.t 11) [.t 15])] (.cond (.t 16) (q' 17 [am 5,aV 4] .ret) .skip)))) (g' 18 [aA 8]))))))) (q' 4 [ao (.mov (.k (.v false [.c (.i .i64 (-1))])))] .ret))) [.t 4] [(116,[],a1v)] ?_;intro hb hE;simp only [go_sem];repeat' first|apply cj'|intro hc|exact om'|fail
 refine lq' false [0,1,7] [] [] (fun i:{i:Nat // i<=l.length/\(l.take i).any (fun y:d3=>y.Name==d.Name)=false}=>[(8,slV (.i .i64 i.1))]) nl' nl' (fun i=>l.length - i.1) (⟨0,by simp⟩) ?_;intro S0 hS0 i;obtain ⟨i,hi,ha⟩:=i;simp only [go_sem,hS0];repeat' first|apply cj'|intro hc|exact om'|fail
 ·exact (s5 (p:=fun y:d3=>y.Name==d.Name) (d:=default) (by omega) ha (by simpa [-List.getD_eq_getElem?_getD] using hc)).symm
 ·exact nx0 ⟨i+1,by omega,m9 (p:=fun y:d3=>y.Name==d.Name) default (by omega) ha (by simpa [-List.getD_eq_getElem?_getD] using hc)⟩
 ·exact (s4 (by rwa [g9 (by omega)] at ha)).symm
noncomputable def a6v:CT:=i8 (fun (x:(List d3)×d3)=>b3u x.1 x.2)
@[go_sem] def c0c:=fun l x0 x1 x2=>nm' (fQ' a6v rfl (l,⟨x0,x1,x2⟩))
def b3s (l:List d3) (d:d3):spZ 115 [(false,[k6 l]),(false,[.f 116 [.p [.i .i64 d.Kind,.s d.Name,.i .i64 d.Arity]]])] [] (.one (false,[.b (l.any (fun y:d3=>y.Name==d.Name))])):=by
 refine sy' Tryz.func115 (q' 0 [ab 4 false] (q' 5 [aM [0,1],ac 215 [5,6],ao (.bin .geq (.t 7) (k' 0)),aV 4] .ret)) [.t 4] [(215,[],a6v)] ?_;intro hb hE;simp only [go_sem];repeat' first|apply cj'|intro hc|exact om'|fail
 ·exact a0K _ _
noncomputable def a6t:CT:=i8 (fun (x:(List d3)×d3)=>b3s x.1 x.2)
@[go_sem] def c0a:=fun l x0 x1 x2=>nm' (fQ' a6t rfl (l,⟨x0,x1,x2⟩))
def a6U (p:c4):spZ 36 [(true,[k6 p.Decls,j9 p.Rules])] [] (.tup [(false,[.i .i64 ((f9 p).1)]),(false,[.i .i64 ((f9 p).2)])]):=by
 refine sy' Tryz.func36 (q' 1 [ao (.box 2 (.t 0)),aK 0,aK 0] (.seq (q' 9 [ae 2 1,ac 59 [9],ao (.not (.t 10))] (.cond (.t 11) (q' 2 [aK 1,aK 0] .ret) .skip)) (.seq (q' 12 [aG 0 1,aN,aK 0] (.block 0 (.loop (q' 16 [ar 15 14] (.seq (.cond (.t 16) .skip (.exit 0)) (.seq (.block 1 (q' 17 [am 15,aV 4] (q' 18 [aG 0 1,am 4,aI 3,aG 1 21,aV 5] (.seq (q' 24 [am 5,ao (.bin .eql (.t 24) (.k (.v false [.c (.s [112,97,99,107,101,116])]))),am 25,au (.mov (.t 5)) 26 false,au (.bin .eql (.t 27) (.k (.v false [.c (.s [102,111,114,119,97,114,100])]))) 26 false,ao (.pick (.t 26) (bb true) (.t 28))] (.cond (.t 29) (q' 30 [am 4,az 2 2,aV 3] .ret) .skip)) (q' 6 [aK 0] (.block 2 (.loop (.seq (q' 31 [aM [6,4],ar 31 32] (.cond (.t 33) .skip (.exit 2))) (.seq (.block 3 (q' 36 [aG 0 1,am 6,aI 3,aG 1 39,am 5,ao (.bin .eql (.t 41) (.t 42))] (.cond (.t 43) (q' 44 [am 4,az 2 2,aV 3] .ret) .skip))) (g' 34 [aB 6])))))))))) (g' 45 [aA 15]))))))) (.seq (q' 46 [aG 1 1,aN,aK 0] (.block 4 (.loop (q' 50 [ar 49 48] (.seq (.cond (.t 50) .skip (.exit 4)) (.seq (.block 5 (q' 51 [am 49,aV 7] (.seq (G' 52 [ae 2 1,aG 1 1,am 7,aI 4,aE 4,ac 99 [52,57],aV 8]) (q' 59 [am 8,ao (.bin .gtr (.t 59) (k' 0))] (.cond (.t 60) (q' 61 [aM [8,7],av 2 61,aV 3] .ret) .skip))))) (g' 63 [aA 49]))))))) (q' 2 [aK 0,aK 0] .ret))))) [.t 2,.t 3] [(59,[],a0V),(99,[],a4B)] ?_;intro hb hE;simp only [go_sem];repeat' first|apply cj'|intro hc|exact om'|fail
 ·rw [a0n hc];exact ⟨rfl,rfl⟩
 have hB:n8 p=true:=hc;clear hc;refine lq' false [1,14] [2] [] (fun i:{i:Nat // i<=p.Decls.length/\∀ j,j < i->m8 p j=false}=>[(15,slV (.i .i64 i.1))]) nl' nl' (fun i=>p.Decls.length - i.1) (⟨0,by omega,by intro j h;omega⟩) ?_;intro S0 hS0 i;obtain ⟨n,hn,ha⟩:=i;simp only [go_sem,hS0];repeat' first|apply cj'|intro hc|exact om'|fail
 ·have hq:m8 p n=true:=by rcases hc with hc|hc<;>(simp only [m8,pkB,fwB,hc,Bool.true_or,q3H])
  rw [a0r hB (by omega) ha hq];exact ⟨rfl,rfl⟩
 ·have hN:=hc;clear hc;refine lq' false [1,4,5,14,15] [2] [] (fun i:{k:Nat // k<=n/\(p.Decls.take k).any (fun x=>x.Name==(p.Decls.getD n default).Name)=false}=>[(6,slV (.i .i64 i.1))]) nl' nl' (fun i=>n - i.1) (⟨0,by omega,by simp⟩) ?_;intro S1 hS1 i;obtain ⟨k,hk,hx⟩:=i;simp only [go_sem,hS0,hS1];repeat' first|apply cj'|intro hc|exact om'|fail
  ·have:((p.Decls.take n).any fun x=>x.Name==(p.Decls.getD n default).Name)=true:=by
    refine a6p (q:=fun x:d3=>x.Name==(p.Decls.getD n default).Name) (i:=k) default (by rw [q0K];omega) ?_;have e:(p.Decls.take n).getD k default=p.Decls.getD k default:=by
     simp only [V6,List.getElem?_take];rw [if_pos (by omega)]
    rw [e];exact hc
   have hq:m8 p n=true:=by rw [m8,this,q3H]
   rw [a0r hB (by omega) ha hq];exact ⟨rfl,rfl⟩
  ·exact nx1 ⟨k+1,by omega,m9 (p:=fun x:d3=>x.Name==(p.Decls.getD n default).Name) default (by omega) hx hc⟩
  ·have e:k=n:=by omega
   subst e;have hq:m8 p k=false:=by rw [m8,hx];simp only [pkB,fwB,hN,Bool.or_false]
   exact nx1 ⟨k+1,by omega,a7c ha hq⟩
 have hd:∀ j,j < p.Decls.length->m8 p j=false:=fun j hj=>ha j (by omega)
 clear hc ha;refine lq' false [1,48] [2] [] (fun i:{i:Nat // i<=p.Rules.length/\∀ j,j < i->p6 p j=false}=>[(49,slV (.i .i64 i.1))]) nl' nl' (fun i=>p.Rules.length - i.1) (⟨0,by omega,by intro j h;omega⟩) ?_;intro S2 hS2 i;obtain ⟨n,hn,ha⟩:=i;simp only [go_sem,hS0,hS2];repeat' first|apply cj'|intro hc|exact om'|fail
 ·exact ⟨b5A hB (by omega),hB⟩
 ·have hq:p6 p n=true:=by
   have:=a8E p (p.Rules.getD n default);rw [p6,q1K,beq_eq_false_iff_ne];omega
  rw [a1o hB hd (by omega) ha hq];exact ⟨rfl,rfl⟩
 ·have hq:p6 p n=false:=by
   have:=a8E p (p.Rules.getD n default);rw [p6,q2E,beq_iff_eq];omega
  (refine lpK_n2 (⟨n+1,by omega,a7c ha hq⟩) _ rfl ?_;simp only [go_sem,hS0,hS2]<;>repeat' first|apply V0|exact on'|fail)
 ·rw [a5o hB hd (fun j hj=>ha j (by omega))];exact ⟨rfl,rfl⟩
noncomputable def z6:CT:=i8 (fun (x:c4)=>a6U x)
@[go_sem] def b4C:=fun x0 x1=>nm' (fQ' z6 rfl ⟨x0,x1⟩)
def b4N {α:Type} (l:List α) (n:Nat):cut l 0 n=l.take n:=by unfold cut;simp
def a6O (p:c4):spZ 52 [(true,[k6 p.Decls,j9 p.Rules])] [] (.tup [(false,[.i .i64 ((f9 p).1)]),(false,[.i .i64 ((f9 p).2)])]):=by
 refine sy' Tryz.func52 (q' 1 [ao (.box 2 (.t 0)),aK 0,aK 0] (.seq (q' 9 [ae 2 1,ac 62 [9],ao (.not (.t 10))] (.cond (.t 11) (q' 2 [aK 1,aK 0] .ret) .skip)) (.seq (q' 12 [aG 0 1,aN,aK 0] (.block 0 (.loop (q' 16 [ar 15 14] (.seq (.cond (.t 16) .skip (.exit 0)) (.seq (.block 1 (q' 17 [am 15,ai 3 13 15,aE 3,ax (w' 5 [.i .i64,.s,.i .i64]),av 4 17,aS 3 5 19] (q' 20 [aG 1 5,ao (.bin .eql (.t 21) (.k (.v false [.c (.s [112,97,99,107,101,116])]))),am 22,au (.fa 1 (.t 5)) 23 false,au (.ld false 1 (.t 24)) 23 false,au (.bin .eql (.t 25) (.k (.v false [.c (.s [102,111,114,119,97,114,100])]))) 23 false,ao (.pick (.t 23) (bb true) (.t 26)),am 27,au (.fa 0 (.t 1)) 28 false,au (.ld false 1 (.t 29)) 28 false,au (.mov (.t 4)) 28 false,au (.slc 3 (.t 30) none (some (.t 31)) none) 28 false,au (.mf 116 [.t 5]) 28 false,au (.call 115 [.t 32,.t 33]) 28 false,ao (.pick (.t 28) (bb true) (.t 34))] (.cond (.t 35) (q' 36 [am 4,az 2 2,aV 3] .ret) .skip)))) (g' 37 [aA 15]))))))) (.seq (q' 38 [aG 1 1,aN,aK 0] (.block 2 (.loop (q' 42 [ar 41 40] (.seq (.cond (.t 42) .skip (.exit 2)) (.seq (.block 3 (q' 43 [am 41,ai 4 39 41,aE 4,ax (w' 7 [.i .i64,.s,.sl j6,.sl a3h]),av 6 43,aS 4 7 45] (q' 46 [ae 2 1,ae 4 7,ac 117 [46,47],aV 8] (q' 49 [am 8,ao (.bin .neq (.t 49) (k' 0))] (.cond (.t 50) (q' 51 [aM [8,6],av 2 51,aV 3] .ret) .skip))))) (g' 53 [aA 41]))))))) (q' 2 [aK 0,aK 0] .ret))))) [.t 2,.t 3] [(62,[],a0U),(115,[],a6t),(117,[],a3z)] ?_;intro hb hE;simp only [go_sem];repeat' first|apply cj'|intro hc|exact om'|fail
 ·rw [a0n hc];exact ⟨rfl,rfl⟩
 have hB:n8 p=true:=hc;clear hc;refine lq' false [1,13,14] [2] [] (fun i:{i:Nat // i<=p.Decls.length/\∀ j,j < i->m8 p j=false}=>[(15,slV (.i .i64 i.1))]) nl' nl' (fun i=>p.Decls.length - i.1) (⟨0,by omega,by intro j h;omega⟩) ?_;intro S0 hS0 i;obtain ⟨n,hn,ha⟩:=i;simp only [go_sem,hS0];repeat' first|apply cj'|intro hc|exact om'|fail
 ·rw [b4N] at hc;have hq:m8 p n=true:=by rcases hc with (hc|hc)|hc<;>simp only [m8,pkB,fwB,hc,Bool.true_or,q3H]
  rw [a0r hB (by omega) ha hq];exact ⟨rfl,rfl⟩
 ·rw [b4N] at hc;have hq:m8 p n=false:=by simp only [m8,pkB,fwB,hc,Bool.or_false]
  exact nx0 ⟨n+1,by omega,a7c ha hq⟩
 have hd:∀ j,j < p.Decls.length->m8 p j=false:=fun j hj=>ha j (by omega)
 clear hc ha;refine lq' false [1,39,40] [2] [] (fun i:{i:Nat // i<=p.Rules.length/\∀ j,j < i->p6 p j=false}=>[(41,slV (.i .i64 i.1))]) nl' nl' (fun i=>p.Rules.length - i.1) (⟨0,by omega,by intro j h;omega⟩) ?_;intro S1 hS1 i;obtain ⟨n,hn,ha⟩:=i;simp only [go_sem,hS0,hS1];repeat' first|apply cj'|intro hc|exact om'|fail
 ·exact b5A hB (by omega)
 ·have hq:p6 p n=true:=by
   simp only [bne,q1K,beq_eq_false_iff_ne] at hc;rw [p6,q1K,beq_eq_false_iff_ne];exact hc
  rw [a1o hB hd (by omega) ha hq];exact ⟨rfl,rfl⟩
 ·have hq:p6 p n=false:=by
   simp only [bne,q2E,beq_iff_eq] at hc;rw [p6,q2E,beq_iff_eq];exact hc
  exact nx1 ⟨n+1,by omega,a7c ha hq⟩
 ·rw [a5o hB hd (fun j hj=>ha j (by omega))];exact ⟨rfl,rfl⟩
noncomputable def a2b:CT:=i8 (fun (x:c4)=>a6O x)
@[go_sem] def b4w:=fun x0 x1=>nm' (fQ' a2b rfl ⟨x0,x1⟩)
def a5g (r:c6):List (List UInt8):=((i4 r).drop 1).map d6.Name
def a2E (p:c4) (a:List UInt8) (r:c6):Bool:=(r.Kind==1&&u7 p r.Head.Name==3)&&r.Head.Name==a
def v5 (p:c4) (a:List UInt8):List (List UInt8):=(p.Rules.filter (a2E p a)).flatMap a5g
inductive Rch (p:c4) (a:List UInt8):List UInt8->Prop
 | one {b:List UInt8}:b∈v5 p a->Rch p a b
 | step {b c:List UInt8}:Rch p a b->c∈v5 p b->Rch p a c
def a8x (p:c4):List (List UInt8):=p.Rules.flatMap a5g
def a7e {p:c4} {a b:List UInt8} (h:b∈v5 p a):b∈a8x p:=by
 obtain ⟨r,hr,hb⟩:=q2F.1 h;exact q2F.2 ⟨r,(q0V.1 hr).1,hb⟩
def Rch.all {p:c4} {a b:List UInt8} (h:Rch p a b):b∈a8x p:=by
 cases h with
 | one h=>exact a7e h
 | step _ h=>exact a7e h
def Rch.mem {p:c4} {a:List UInt8} {l:List (List UInt8)} (h1:∀ x∈v5 p a,x∈l) (h2:∀ x∈l,∀ y∈v5 p x,y∈l) {b:List UInt8} (h:Rch p a b):b∈l:=by
 induction h with
 | one h=>exact h1 _ h
 | step _ h ih=>exact h2 _ ih _ h
open Classical in
noncomputable def b1r (p:c4) (a:List UInt8):List (List UInt8):=(l7 sLt [] (a8x p)).filter fun v=>decide (Rch p a v)
open Classical in
def a5Q {p:c4} {a v:List UInt8}:v∈b1r p a↔Rch p a v:=by
 rw [b1r,q0V,s6,V4];exact ⟨fun h=>h.2,fun h=>⟨.inr h.all,h⟩⟩
noncomputable def a3J (p:c4) (a b:List UInt8):Bool:=(f9 p).1==0&&(b1r p a).contains b
def b3l {l l':List (List UInt8)} {b:List UInt8} (h:b∈l↔b∈l'):l.contains b=l'.contains b:=by
 rw [q4I,q0X,q0X,h]
def s7 (o l:List (List UInt8)):List (List UInt8):=l.foldl (fun o y=>if y∈o then o else o++[y]) o
def b4m (o l r:List (List UInt8)):s7 o (l++r)=s7 (s7 o l) r:=by simp [s7,q3B]
def b0j:∀ (l o:List (List UInt8)),∃ s,s7 o l=o++s/\(∀ x∈s,x∈l)
 | [],o=>⟨[],by simp [s7],by simp⟩
 | y::l,o=>by
   by_cases h:y∈o
   ·obtain ⟨s,e,hs⟩:=b0j l o;exact ⟨s,by rw [<- e];simp [s7,h],fun x hx=>q2G _ (hs x hx)⟩
   ·obtain ⟨s,e,hs⟩:=b0j l (o++[y]);refine ⟨y::s, ?_, ?_⟩
    ·have:s7 o (y::l)=s7 (o++[y]) l:=by simp [s7,h]
     rw [this,e];simp
    ·intro x hx;rcases V2.1 hx with rfl|hx
     ·simp
     ·exact q2G _ (hs x hx)
def a1E {l o:List (List UInt8)} {x:List UInt8}:x∈s7 o l↔x∈o\/x∈l:=by
 induction l generalizing o with
 | nil=>simp [s7]
 | cons y l ih=>
   have e:s7 o (y::l)=s7 (if y∈o then o else o++[y]) l:=rfl;rw [e,ih];by_cases h:y∈o
   ·simp only [h,if_true,V2];constructor
    ·rintro (h1|h1);exact .inl h1;exact .inr (.inr h1)
    ·rintro (h1|rfl|h1);exact .inl h1;exact .inl h;exact .inr h1
   ·rw [if_neg h,W5,V3,V2,or_assoc]
def a3i:∀ {l o:List (List UInt8)},o.Nodup->(s7 o l).Nodup
 | [],o,h=>h
 | y::l,o,h=>by
   have e:s7 o (y::l)=s7 (if y∈o then o else o++[y]) l:=rfl;rw [e];by_cases hy:y∈o
   ·rw [if_pos hy];exact a3i h
   ·rw [if_neg hy];refine a3i (V8.2 ⟨h,by simp, ?_⟩);intro a ha b hb;rw [V3] at hb;rintro rfl;exact hy (hb▸ha)
def b3e {o l:List (List UInt8)} {x:List UInt8} (h:x∈s7 o l):s7 o (l++[x])=s7 o l:=by
 rw [b4m];exact if_pos h
def b1Q {o l:List (List UInt8)} {x:List UInt8} (h:¬ x∈s7 o l):s7 o (l++[x])=s7 o l++[x]:=by
 rw [b4m];simp [s7] at h ⊢;intro h';exact absurd h' h
def b1x (p:c4):List (List UInt8)×List (List UInt8)->List (List UInt8)×List (List UInt8)
 | (o,[])=>(o,[])
 | (o,x::r)=>(s7 o (v5 p x),r++(s7 o (v5 p x)).drop o.length)
def itF (p:c4) (v:List UInt8):Nat->List (List UInt8)×List (List UInt8)
 | 0=>([],[v])
 | k+1=>b1x p (itF p v k)
def a1X (p:c4):Nat:=(a8x p).length
def a4N (p:c4) (v:List UInt8):List (List UInt8):=(itF p v (2 * a1X p+2)).1
structure FInv (p:c4) (v:List UInt8) (k:Nat) (o n:List (List UInt8)):Prop where
 nd:o.Nodup
 un:∀ x∈o,x∈a8x p
 ok:∀ x∈o,Rch p v x
 nx:∀ x∈n,x=v\/x∈o
 cl:∀ x,x=v\/x∈o->x∈n\/∀ y∈v5 p x,y∈o
 ms:n=[]\/k+2 * (a1X p - o.length)+n.length<=2 * a1X p+1
def a4T {α:Type} [DecidableEq α]:∀ {l m:List α},l.Nodup->(∀ x∈l,x∈m)->l.length<=m.length
 | [],_,_,_=>q2M _
 | x::l,m,h,hm=>by
   rw [q0Z] at h;have h1:=a4T (l:=l) (m:=m.erase x) h.2 fun y hy=>(List.mem_erase_of_ne (fun e=>h.1 (by rw [<- e];exact hy))).2 (hm y (by simp [hy]))
   have h2:=List.length_erase_of_mem (hm x (by simp));have h3:0 < m.length:=List.length_pos_of_mem (hm x (by simp));simp only [W9];omega
def FInv.start (p:c4) (v:List UInt8):FInv p v 0 [] [v]:=
 ⟨q0H,by simp,by simp,by simp,fun x hx=>.inl (by simpa using hx),.inr (by simp)⟩
def FInv.step {p:c4} {v:List UInt8} {k:Nat} {o r:List (List UInt8)} {x:List UInt8} (h:FInv p v k o (x::r)):FInv p v (k+1) (s7 o (v5 p x)) (r++(s7 o (v5 p x)).drop o.length):=by
 obtain ⟨s,e,hs⟩:=b0j (v5 p x) o;have hd:(s7 o (v5 p x)).drop o.length=s:=by rw [e];simp
 have hx:x=v\/Rch p v x:=(h.nx x (by simp)).imp id (h.ok x);have hR:∀ y∈v5 p x,Rch p v y:=fun y hy=>by
  rcases hx with rfl|hx
  ·exact .one hy
  ·exact .step hx hy
 have hun:∀ y∈s7 o (v5 p x),y∈a8x p:=fun y hy=>(a1E.1 hy).elim (h.un y) a7e
 have hnd:=a3i (l:=v5 p x) h.nd;refine ⟨hnd,hun,fun y hy=>(a1E.1 hy).elim (h.ok y) (hR y), ?_, ?_, ?_⟩
 ·intro y hy;rw [hd] at hy;rcases W5.1 hy with hy|hy
  ·exact (h.nx y (by simp [hy])).imp id fun hy=>a1E.2 (.inl hy)
  ·exact .inr (a1E.2 (.inr (hs y hy)))
 ·intro y hy;rw [hd];have old:y=v\/y∈o->y∈r++s\/∀ z∈v5 p y,z∈s7 o (v5 p x):=by
   intro hy;rcases h.cl y hy with h1|h1
   ·rcases V2.1 h1 with rfl|h1
    ·exact .inr fun z hz=>a1E.2 (.inr hz)
    ·exact .inl (W5.2 (.inl h1))
   ·exact .inr fun z hz=>a1E.2 (.inl (h1 z hz))
  rcases hy with hy|hy
  ·exact old (.inl hy)
  ·rw [e] at hy;rcases W5.1 hy with hy|hy
   ·exact old (.inr hy)
   ·exact .inl (W5.2 (.inr hy))
 ·right;have h1:=a4T hnd hun;have h2:(s7 o (v5 p x)).length=o.length+s.length:=by rw [e,W4]
  have h3:=h.ms.resolve_left (by simp);rw [hd];simp only [W9,W4,a1X] at h1 h3 ⊢;omega
def b3q (p:c4) (v:List UInt8):∀ k,FInv p v k (itF p v k).1 (itF p v k).2
 | 0=>FInv.start p v
 | k+1=>by
   have h:=b3q p v k;have e:itF p v (k+1)=b1x p (itF p v k):=rfl;rw [e];generalize itF p v k=s at h;obtain ⟨o,n⟩:=s;cases n with
   | nil=>exact ⟨h.nd,h.un,h.ok,h.nx,h.cl,.inl rfl⟩
   | cons x r=>exact h.step
def b4Z {p:c4} {v:List UInt8} {k:Nat} (h:(itF p v k).2=[]):∀ j,itF p v (k+j)=itF p v k
 | 0=>rfl
 | j+1=>by
   have e:itF p v (k+(j+1))=b1x p (itF p v (k+j)):=rfl;rw [e,b4Z h j];generalize itF p v k=s at h;obtain ⟨o,n⟩:=s;simp only at h;subst h;rfl
def c1D {p:c4} {v:List UInt8} {k:Nat} (hk:k<=2 * a1X p+1) (h:(itF p v k).2=[]):(itF p v k).1=a4N p v:=by
 rw [a4N,show 2 * a1X p+2=k+(2 * a1X p+2 - k) by omega,b4Z h]
def b7o {p:c4} {v x:List UInt8}:x∈a4N p v↔Rch p v x:=by
 have h:=b3q p v (2 * a1X p+2);have hn:(itF p v (2 * a1X p+2)).2=[]:=by
  rcases h.ms with h|h
  ·exact h
  ·omega
 rw [hn] at h;refine ⟨h.ok x,fun hx=>?_⟩;have hc:∀ y,y=v\/y∈a4N p v->∀ z∈v5 p y,z∈a4N p v:=fun y hy=>(h.cl y hy).resolve_left (by simp)
 exact hx.mem (hc v (.inl rfl)) fun y hy=>hc y (.inr hy)
def c1N {p:c4} (h:n8 p=true):a1X p<=192:=by
 have h2:∀ r∈p.Rules,(a5g r).length<=8:=fun r hr=>by
  have h1:=b0H h hr;have h3:=a5H r;rw [a5g,q1Z,q1U];omega
 have h3:p.Rules.length<=24:=by
  simp only [n8,W3,V4] at h;omega
 have:∀ {l:List c6},(∀ r∈l,(a5g r).length<=8)->(l.flatMap a5g).length<=8 * l.length:=by
  intro l
  induction l with
  | nil=>intro _;simp
  | cons x l ih=>
    intro h;have h1:=h x (by simp);have h2:=ih fun y hy=>h y (by simp [hy])
    simp only [q1P,W4,W9];omega
 have h4:=this h2;rw [a1X,a8x];omega
def a6s {p:c4} (h:n8 p=true) {i:Nat} (hi:i < p.Rules.length):(p.Rules.getD i default).Body.length<=8:=b0H h (A3w hi)
def b0n {r:c6} {j:Nat} (h:j < ((i4 r).drop 1).length):(((i4 r).drop 1).take (j+1)).map d6.Name=(((i4 r).drop 1).take j).map d6.Name++[(((i4 r).drop 1).getD j default).Name]:=c1u d6.Name default h
def a6L {α β:Type} (q:α->Bool) (f:α->List β):∀ l:List α,((l.filter q).flatMap f).length<=(l.flatMap f).length
 | []=>by simp
 | x::l=>by
   have h:=a6L q f l;simp only [q4D];split<;>simp only [q1P,W4]<;>omega
def y5 (p:c4) (a:List UInt8) (n:Nat):List (List UInt8):=((p.Rules.take n).filter (a2E p a)).flatMap a5g
def b9L (p:c4) (a:List UInt8) (n:Nat):(y5 p a n).length<=a1X p:=by
 refine q1F (a6L _ _ _) ?_;have e:a8x p=(p.Rules.take n).flatMap a5g++(p.Rules.drop n).flatMap a5g:=by rw [<- q3S,q0S];rfl
 rw [a1X,e,W4];omega
@[go_sem] def nextF_zero (p:c4) (a:List UInt8):y5 p a 0=[]:=rfl
@[go_sem] def putsN_nil (l:List (List UInt8)):l7 sLt l []=l:=rfl
@[go_sem] def addL_nil (o:List (List UInt8)):s7 o []=o:=rfl
def b9K {p:c4} {a:List UInt8} {n:Nat} (h:¬ n < p.Rules.length):y5 p a n=v5 p a:=by rw [y5,g9 h,v5]
def b9M {p:c4} {a:List UInt8} {i:Nat} (hi:i < p.Rules.length) (h:a2E p a (p.Rules.getD i default)=true):y5 p a (i+1)=y5 p a i++a5g (p.Rules.getD i default):=by
 rw [y5,f_yes default hi h,q3S,y5];simp
def c1x {p:c4} {a:List UInt8} {i:Nat} (hi:i < p.Rules.length) (h:a2E p a (p.Rules.getD i default)=false):y5 p a (i+1)=y5 p a i:=by
 rw [y5,f_no default hi h,y5]
def a1U {p:c4} (h:((f9 p).1==0)=true):n8 p=true:=by
 cases hB:n8 p with
 | true=>rfl
 | false=>rw [a0n hB] at h;simp at h
def b0i (o l:List (List UInt8)):o.length<=(s7 o l).length/\(s7 o l).length<=o.length+l.length:=by
 induction l generalizing o with
 | nil=>exact ⟨q0A _,q0A _⟩
 | cons y l ih=>
   have e:s7 o (y::l)=s7 (if y∈o then o else o++[y]) l:=rfl;rw [e];by_cases h:y∈o
   ·have:=ih o;rw [if_pos h];simp only [W9];omega
   ·have:=ih (o++[y]);rw [if_neg h];simp only [W4,W9,q0T] at *;omega
def next_ne {p:c4} {a b:List UInt8} (h:b∈v5 p a):u7 p a=3:=by
 obtain ⟨r,hr,_⟩:=q2F.1 h;have h2:=(q0V.1 hr).2;simp only [a2E,W3,beq_iff_eq] at h2;rw [<- h2.2];exact h2.1.2
def c1C {p:c4} {a b:List UInt8} (h:Rch p a b):u7 p a=3:=by
 induction h with
 | one h=>exact next_ne h
 | step _ _ ih=>exact ih
def a6P (p:c4) (r:c6):spZ 43 [(true,[k6 p.Decls,j9 p.Rules]),(true,[.i .i64 r.Kind,.s r.Head.Name,l3 r.Head.Args,z9 r.Body])] [] (.one (false,[.b (r.Kind==1&&u7 p r.Head.Name==3)])):=by
 refine sy' Tryz.func43 (q' 2 [ao (.box 2 (.t 0)),ao (.box 4 (.t 1)),ao (.mov (bb false))] (q' 5 [aG 0 3,ao (.bin .eql (.t 6) (k' 1)),am 7,au (.ld true 2 (.t 2)) 8 true,au (.fa 1 (.t 3)) 8 true,au (.fa 0 (.t 10)) 8 true,au (.ld false 1 (.t 11)) 8 true,au (.call 46 [.t 9,.t 12]) 8 true,au (.bin .eql (.t 13) (k' 3)) 8 true,ao (.pick (.t 8) (.t 14) (bb false)),aV 4] .ret)) [.t 4] [(46,[],u4)] ?_;intro hb hE;simp only [go_sem];repeat' first|apply cj'|intro hc|exact om'|fail
 all_goals (first|rfl|(rw [hc];rfl))
noncomputable def a0C:CT:=i8 (fun (x:c4×c6)=>a6P x.1 x.2)
@[go_sem] def b4x:=fun x0 x1 x2 x3 x4 x5=>nm' (fQ' a0C rfl (⟨x0,x1⟩,⟨x2,⟨x3,x4⟩,x5⟩))
def a6Q (p:c4):spZ 39 [(true,[k6 p.Decls,j9 p.Rules])] [] (.one (false,[.b ((f9 p).1==0)])):=by
 refine sy' Tryz.func39 (q' 0 [ax (o' 1 (.box 2 (.t 0))),ab 2 false] (q' 6 [ae 2 1,ac 52 [6],aV 5,ao (.ext (.t 5) 0),ao (.ext (.t 5) 1),av 3 8,aV 4] (q' 10 [am 3,ao (.bin .eql (.t 10) (k' 0)),aV 2] .ret))) [.t 2] [(52,[],a2b)] ?_;intro hb hE;simp only [go_sem];repeat' first|apply cj'|intro hc|exact om'|fail
 all_goals (first|rfl)
noncomputable def a0D:CT:=i8 (fun (x:c4)=>a6Q x)
@[go_sem] def b4y:=fun x0 x1=>nm' (fQ' a0D rfl ⟨x0,x1⟩)
def b1y {p:c4} {o nx:List (List UInt8)} (h:0 < nx.length):b1x p (o,nx)=(s7 o (v5 p (nx.getD 0 [])),nx.drop 1++(s7 o (v5 p (nx.getD 0 []))).drop o.length):=by
 cases nx with
 | nil=>simp at h
 | cons x r=>rfl
def step_ms {p:c4} {v:List UInt8} {k:Nat} {o nx:List (List UInt8)} (h:FInv p v k o nx) (hm:k+2 * (a1X p - o.length)+nx.length<=2 * a1X p+1) (hn:0 < nx.length):k+1+2 * (a1X p - (b1x p (o,nx)).1.length)+(b1x p (o,nx)).2.length<=2 * a1X p+1:=by
 rw [b1y hn];have h1:=a4T (a3i (l:=v5 p (nx.getD 0 [])) h.nd) fun y hy=>(a1E.1 hy).elim (h.un y) a7e
 have h2:=(b0i o (v5 p (nx.getD 0 []))).1;simp only [W4,q1U,a1X] at *;omega
@[go_sem] def c1T (l o:List (List UInt8)):l++List.drop o.length o=l:=by simp
def b0S (p:c4) (v:List UInt8) (hpre:n8 p=true):spZ 50 [(true,[k6 p.Decls,j9 p.Rules]),(false,[.s v])] [] (.one (false,[a4H (a4N p v)])):=by
 refine sy' Tryz.func50 (q' 2 [ao (.box 2 (.t 0)),ax (o' 4 (.mov (.k (.v false [.nl [.s []]]))))] (q' 12 [ao (.bsl 1 0 [.s] []),aV 5] (q' 13 [am 1,ao (.bsl 1 1 [.s] [(0,.t 13)]),aV 6] (.seq (.block 0 (.loop (.seq (q' 15 [am 6,aN,ao (.bin .gtr (.t 16) (k' 0))] (.cond (.t 17) .skip (.exit 0))) (.block 1 (q' 18 [am 6,ao (.ia 1 (.t 18) (k' 0)),aL,aV 7] (q' 21 [am 6,ao (.slc 1 (.t 21) (some (k' 1)) none none),aV 6] (q' 23 [aG 1 2,aN,aK 0] (.block 2 (.loop (q' 27 [ar 26 25] (.seq (.cond (.t 27) .skip (.exit 2)) (.seq (.block 3 (q' 28 [ai 4 24 26,aE 4,ax (w' 9 [.i .i64,.s,.sl j6,.sl a3h]),aS 4 9 29] (.seq (q' 30 [ae 2 2,ae 4 9,ac 43 [30,31],ao (.not (.t 32)),am 33,au (.fa 1 (.t 9)) 34 false,au (.fa 0 (.t 35)) 34 false,au (.ld false 1 (.t 36)) 34 false,au (.mov (.t 7)) 34 false,au (.bin .neq (.t 37) (.t 38)) 34 false,ao (.pick (.t 34) (bb true) (.t 39))] (.cond (.t 40) (.exit 3) .skip)) (q' 41 [ae 4 9,ac 107 [41],ao (.slc 2 (.t 42) (some (k' 1)) none none),aN,aK 0] (.block 4 (.loop (q' 46 [ar 45 44] (.seq (.cond (.t 46) .skip (.exit 4)) (.seq (.block 5 (q' 47 [ai 2 43 45,aE 2,ax (w' 11 [.s,.sl j6]),aS 2 11 48] (q' 49 [am 5,aG 0 11,ac 49 [49,51],ao (.not (.t 52))] (.cond (.t 53) (q' 54 [am 5,aG 0 11,ao (.bsl 1 1 [.s] [(0,.t 56)]),ao (.app 1 16 [.s] (.t 54) (.t 57)),aV 5] (g' 59 [am 6,aG 0 11,ao (.bsl 1 1 [.s] [(0,.t 61)]),ao (.app 1 16 [.s] (.t 59) (.t 62)),aV 6])) .skip)))) (g' 64 [aA 45])))))))))) (g' 65 [aA 26]))))))))))))) (q' 66 [am 5,aV 4] .ret))))) [.t 4] [(43,[],a0C),(107,[],a0B),(49,[],b3g)] ?_;intro hb hE;have hU:=c1N hpre;simp only [go_sem,m7];repeat' first|apply cj'|intro hc|exact om'|fail
 refine lk' false [(false,5,0,100010),(false,6,0,100012)] [2] [4] [] (fun i:{k:Nat // k+2 * (a1X p - (itF p v k).1.length)+(itF p v k).2.length<=2 * a1X p+1}=>[(5,.v false [.ow 100010]),(6,.v false [.ow 100012])]) nl' (fun i=>[(100010,[.s []],((itF p v i.1).1).map o9),(100012,[.s []],((itF p v i.1).2).map o9)]) (fun i=>2 * a1X p+2 - i.1) (⟨0,by simp [itF]⟩) ?_;intro S0 hS0 i;obtain ⟨k,hk⟩:=i;obtain ⟨o,ho⟩:∃ o,(itF p v k).1=o:=⟨_,rfl⟩
 obtain ⟨nx,hx⟩:∃ nx,(itF p v k).2=nx:=⟨_,rfl⟩
 have hst:itF p v (k+1)=b1x p (o,nx):=by rw [<- ho,<- hx];rfl
 have hI:=b3q p v k;have hfin:(itF p v k).2=[]->(itF p v k).1=a4N p v:=fun h=>c1D (by omega) h
 have hk2:=hk;rw [ho,hx] at hI hfin hk2;have hol:o.length<=a1X p:=a4T hI.nd hI.un;simp only [go_sem,m7,hS0,ho,hx];repeat' first|apply cj'|intro hc|exact om'|fail
 ·have hn0:0 < nx.length:=by omega
  generalize hxx:nx.getD 0 []=x;clear hc;refine lk' false [(false,5,0,100010),(false,6,0,100012)] [2,7,24,25] [4] [] (fun i:{i:Nat // i<=p.Rules.length}=>[(5,.v false [.ow 100010]),(6,.v false [.ow 100012]),(26,slV (.i .i64 i.1))]) nl' (fun i=>[(100010,[.s []],(s7 o (y5 p x i.1)).map o9),(100012,[.s []],(nx.drop 1++(s7 o (y5 p x i.1)).drop o.length).map o9)]) (fun i=>p.Rules.length - i.1) (⟨0,by simp⟩) ?_;intro S1 hS1 i;obtain ⟨n,hn⟩:=i;have hF:=b9L p x n;have hA:=b0i o (y5 p x n);simp only [go_sem,m7,hS0,ho,hx,hS1];repeat' first|apply cj'|intro hc|exact om'|fail
  ·have hq:a2E p x (p.Rules.getD n default)=false:=by
    rw [a2E];rcases hc with h|h
    ·rw [h];rfl
    ·rw [h,q2V]
   (refine lpK_n2 (⟨n+1,by omega⟩) _ (by simp only [go_sem,m7,hS0,ho,hx];try rfl) ?_;simp only [go_sem,m7,hS0,ho,hx,hS1]<;>repeat' first|apply V0|exact on'|fail)
   all_goals rw [c1x (by omega) hq]
  ·exact a6s hpre (by omega)
  ·have:=a3Z (p.Rules.getD n default);omega
  ·have hq:a2E p x (p.Rules.getD n default)=true:=by rw [a2E,hc.1.1,hc.1.2,hc.2];rfl
   have hdl:((i4 (p.Rules.getD n default)).drop 1).length<=8:=by
    have h1:=a5H (p.Rules.getD n default);have h2:=a6s hpre (show n < p.Rules.length by omega);rw [q1U];omega
   clear hc;refine lk' false [(false,5,0,100010),(false,6,0,100012)] [2,7,24,25,26,43,44] [4] [5504] (fun i:{j:Nat // j<=((i4 (p.Rules.getD n default)).drop 1).length}=>[(5,.v false [.ow 100010]),(6,.v false [.ow 100012]),(45,slV (.i .i64 i.1))]) nl' (fun i=>[(100010,[.s []],(s7 o (y5 p x n++(((i4 (p.Rules.getD n default)).drop 1).take i.1).map d6.Name)).map o9),(100012,[.s []],(nx.drop 1++(s7 o (y5 p x n++(((i4 (p.Rules.getD n default)).drop 1).take i.1).map d6.Name)).drop o.length).map o9)]) (fun i=>((i4 (p.Rules.getD n default)).drop 1).length - i.1) (⟨0,by simp⟩) ?_;intro S2 hS2 i;obtain ⟨j,hj⟩:=i;have hB:=b0i o (y5 p x n++(((i4 (p.Rules.getD n default)).drop 1).take j).map d6.Name);rw [W4,q1Z,q0K] at hB;simp only [go_sem,m7,hS0,ho,hx,hS1,hS2];repeat' first|apply cj'|intro hc|exact om'|fail
   all_goals first
    | ((try simp only [W4,q1U]);omega)
    | (have hm:((((i4 (p.Rules.getD n default)).drop 1).getD j default).Name)∈s7 o (y5 p x n++(((i4 (p.Rules.getD n default)).drop 1).take j).map d6.Name):=q0X.1 hc
       (refine lpK_n2 (⟨j+1,by omega⟩) _ (by simp only [go_sem,m7,hS0,ho,hx,hS1];try rfl) ?_;simp only [go_sem,m7,hS0,ho,hx,hS1,hS2]<;>repeat' first|apply V0|exact on'|fail)
       all_goals rw [b0n (by omega),<- q0N,b3e hm]
       done)
    | (have hm:¬ ((((i4 (p.Rules.getD n default)).drop 1).getD j default).Name)∈s7 o (y5 p x n++(((i4 (p.Rules.getD n default)).drop 1).take j).map d6.Name):=fun h=>by rw [q0X.2 h] at hc;cases hc
       (refine lpK_n2 (⟨j+1,by omega⟩) _ (by simp only [go_sem,m7,hS0,ho,hx,hS1];try rfl) ?_;simp only [go_sem,m7,hS0,ho,hx,hS1,hS2]<;>repeat' first|apply V0|exact on'|fail)
       all_goals rw [b0n (by omega),<- q0N,b1Q hm]
       all_goals first|done|rw [q3G (by omega),<- q0N])
    | (have he:y5 p x n++(((i4 (p.Rules.getD n default)).drop 1).take j).map d6.Name=y5 p x (n+1):=by rw [g9 (by omega),b9M (by omega) hq];rfl
       rw [he]
       (refine lpK_n2 (⟨n+1,by omega⟩) _ (by simp only [go_sem,m7,hS0,ho,hx,hS1];try rfl) ?_;simp only [go_sem,m7,hS0,ho,hx,hS1,hS2]<;>repeat' first|apply V0|exact on'|fail)
       first|done)
    | trace_state
  ·have he:y5 p x n=v5 p x:=b9K (by omega);have hms:=step_ms hI hk2 hn0;have h1:(itF p v (k+1)).1=s7 o (y5 p x n):=by rw [hst,b1y hn0,hxx,he]
   have h2:(itF p v (k+1)).2=nx.drop 1++(s7 o (y5 p x n)).drop o.length:=by rw [hst,b1y hn0,hxx,he]
   (refine lpK_n2 (⟨k+1,by rw [hst];exact hms⟩) _ (by simp only [go_sem,m7,hS0,ho,hx,hS1];try rfl) ?_;simp only [go_sem,m7,hS0,ho,hx,hS1]<;>repeat' first|apply V0|exact on'|fail)
   all_goals first|rw [h1]|rw [h2]|omega
 ·rw [hfin (V9.1 (by omega))]
noncomputable def a4p:CT:=u6 (fun (x:c4×(List UInt8)) h=>b0S x.1 x.2 h)
@[go_sem] def b7J:=fun x0 x1 v=>nm' (fP' a4p rfl (⟨x0,x1⟩,v))
def c1p {p:c4} {a b:List UInt8} (h:((f9 p).1==0)=false):a3J p a b=false:=by rw [a3J,h];rfl
def b7l {p:c4} {a b:List UInt8} (h:(u7 p a==3)=false):a3J p a b=false:=by
 have:(b1r p a).contains b=false:=by
  cases hc:(b1r p a).contains b with
  | false=>rfl
  | true=>
    have:=c1C (a5Q.1 (q0X.1 hc));rw [this] at h;cases h
 rw [a3J,this,q2V]
def b9G {p:c4} {a b:List UInt8} (h:((f9 p).1==0)=true):a3J p a b=(a4N p a).contains b:=by
 rw [a3J,h,q0J,b3l (a5Q.trans b7o.symm)]
def b3y (p:c4) (a:List UInt8) (b:List UInt8):spZ 14 [(true,[k6 p.Decls,j9 p.Rules]),(false,[.s a]),(false,[.s b])] [] (.one (false,[.b (a3J p a b)])):=by
 refine sy' Tryz.func14 (q' 3 [ao (.box 2 (.t 0)),ab 6 false] (q' 7 [ae 2 3,ac 39 [7],am 8,au (.ld true 2 (.t 3)) 9 true,au (.mov (.t 1)) 9 true,au (.call 46 [.t 10,.t 11]) 9 true,au (.bin .eql (.t 12) (k' 3)) 9 true,ao (.pick (.t 9) (.t 13) (bb false)),am 14,au (.ld true 2 (.t 3)) 15 true,au (.mov (.t 1)) 15 true,au (.call 50 [.t 16,.t 17]) 15 true,au (.mov (.t 2)) 15 true,au (.call 49 [.t 18,.t 19]) 15 true,ao (.pick (.t 15) (.t 20) (bb false)),aV 6] .ret)) [.t 6] [(39,[],a0D),(46,[],u4),(50,[],a4p),(49,[],b3g)] ?_;intro hb hE;simp only [go_sem];repeat' first|apply cj'|intro hc|exact om'|fail
 ·exact a1U hc.1
 ·cases h1:((f9 p).1==0) with
  | false=>rw [c1p h1];rfl
  | true=>
    cases h2:(u7 p a==3) with
    | false=>rw [b7l h2];rfl
    | true=>rw [b9G h1];rfl
noncomputable def a6z:CT:=i8 (fun (x:c4×(List UInt8)×(List UInt8))=>b3y x.1 x.2.1 x.2.2)
@[go_sem] def c0g:=fun x0 x1 a b=>nm' (fQ' a6z rfl (⟨x0,x1⟩,a,b))
def a8g (q:Nat->Bool):∀ n,(∀ j,j < n->q j=false)\/∃ i,i < n/\(∀ j,j < i->q j=false)/\q i=true
 | 0=>.inl fun j hj=>by omega
 | n+1=>by
   rcases a8g q n with h|⟨i,hi,h1,h2⟩
   ·cases hq:q n with
    | true=>exact .inr ⟨n,by omega,h,hq⟩
    | false=>exact .inl (a7c h hq)
   ·exact .inr ⟨i,by omega,h1,h2⟩
def b1m {p:c4} (h:(f9 p).1=0):n8 p=true/\(∀ j,j < p.Decls.length->m8 p j=false)/\∀ j,j < p.Rules.length->p6 p j=false:=by
 cases hB:n8 p with
 | false=>rw [a0n hB] at h;simp at h
 | true=>
   rcases a8g (m8 p) p.Decls.length with hd|⟨i,hi,h1,h2⟩
   ·rcases a8g (p6 p) p.Rules.length with hr|⟨i,hi,h1,h2⟩
    ·exact ⟨rfl,hd,hr⟩
    ·rw [a1o hB hd hi h1 h2] at h;simp only at h;rw [p6,h] at h2;simp at h2
   ·rw [a0r hB hi h1 h2] at h;simp at h
def b1n {p:c4} (hd:∀ j,j < p.Decls.length->m8 p j=false) {i j:Nat} (hi:i < p.Decls.length) (hj:j < i):(p.Decls.getD j default).Name≠(p.Decls.getD i default).Name:=by
 have h:=hd i hi;simp only [m8,q2H,q2D] at h;intro e;refine h.2 (p.Decls.getD j default) ?_ (by simpa using e);rw [o8 default (by omega)];exact q2X.2 ⟨j,by omega,rfl⟩
def vwN (p:c4):List (List UInt8):=(p.Decls.filter fun d=>d.Kind==3).map d3.Name
def vwS (p:c4):List (List UInt8):=l7 sLt [] (vwN p)
def vwS_SS (p:c4):SS sLt (vwS p):=SS.puts n7 SS.nil
def a8q (p:c4):(vwS p).Nodup:=(vwS_SS p).nodup n7
def mem_vwS {p:c4} {v:List UInt8}:v∈vwS p↔∃ d∈p.Decls,d.Kind=3/\d.Name=v:=by
 rw [vwS,s6,vwN];simp only [q3P,false_or,q0R,q0V,beq_iff_eq,and_assoc]
def a0v {p:c4} (hd:∀ j,j < p.Decls.length->m8 p j=false) {v:List UInt8}:u7 p v=3↔v∈vwS p:=by
 rw [mem_vwS];constructor
 ·intro h;have hs:a0i p v=true:=by
   cases hs:a0i p v with
   | true=>rfl
   | false=>rw [u7,(a4P hs).1] at h;exact absurd h (by decide)
  obtain ⟨x,hx,hp,e⟩:=b4T hs;rw [u7,w7,e] at h;exact ⟨x,hx,h,by simpa using hp⟩
 ·rintro ⟨d,hm,hk,rfl⟩;obtain ⟨i,hi,rfl⟩:=List.getElem_of_mem hm;have e:p.Decls.getD i default=p.Decls[i]:=o8 default hi;have ha:((p.Decls.take i).any fun d=>d.Name==(p.Decls[i]).Name)=false:=by
   rw [q2D];intro x hx;obtain ⟨j,hj,rfl⟩:=q2X.1 hx;have h1:=b1n hd hi (j:=j) (by omega);rw [e,o8 default (by omega)] at h1;simpa using h1
  rw [u7,(a7M hi ha (by rw [e];simp)).1,e];exact hk
def b7i {p:c4} (hr:∀ j,j < p.Rules.length->p6 p j=false) {i:Nat} (hi:i < p.Rules.length) (hk:u7 p (p.Rules.getD i default).Head.Name=3):(p.Rules.getD i default).Kind=1:=by
 have h:n9 p (p.Rules.getD i default)=0:=by
  have h:=hr i hi;rw [p6,q2E,beq_iff_eq] at h;exact h
 generalize p.Rules.getD i default=r at h hk ⊢;refine Classical.byContradiction fun hne=>?_
 have hb:a1A p r=true:=by rw [a1A,show (r.Kind==1)=false from beq_eq_false_iff_ne.2 hne,W8,hk];rfl
 unfold n9 at h;rw [hb] at h;cases h1:(i4 r).any (a1Z p)<;>rw [h1] at h<;>cases h2:(i4 r).any (a2a p)<;>rw [h2] at h<;>simp at h
abbrev Lev:=List UInt8->Int
def lvl (p:c4) (g:Lev):List c9:=(vwS p).map fun v=>⟨v,g v⟩
def upd (g:Lev) (v:List UInt8) (n:Int):Lev:=fun x=>if x=v then n else g x
def a3r (l:c7):Int:=if l.Kind=2 then 1 else 0
def a1i (p:c4) (g:Lev) (h:List UInt8) (l:c7):Prop:=l.Kind≠3->l.Atom.Name∈vwS p->g l.Atom.Name+a3r l<=g h
def t7 (p:c4) (g:Lev) (r:c6):Prop:=r.Head.Name∈vwS p->∀ l∈r.Body,a1i p g r.Head.Name l
def Fx (p:c4) (g:Lev):Prop:=∀ r∈p.Rules,t7 p g r
structure Low (p:c4) (g:Lev):Prop where
 ge:∀ v,0<=g v
 mn:∀ F,Fx p F->(∀ v,0<=F v)->∀ v∈vwS p,g v<=F v
structure Least (p:c4) (g:Lev):Prop where
 fx:Fx p g
 low:Low p g
 le:∀ v∈vwS p,g v<=(vwS p).length
open Classical in
noncomputable def o0 (p:c4):List c9×Bool:=bif (f9 p).1==0 then (if h:∃ g,Least p g then (lvl p h.choose,true) else ([],false)) else ([],false)
def b9I {p:c4} {g g':Lev} (h:∀ v∈vwS p,g v=g' v):lvl p g=lvl p g':=q2K fun v hv=>by rw [h v hv]
def a5P {p:c4} (h:((f9 p).1==0)=true) {g:Lev} (hg:Least p g):o0 p=(lvl p g,true):=by
 have hx:∃ g,Least p g:=⟨g,hg⟩
 rw [o0,h,W7,dif_pos hx];have h2:=hx.choose_spec;refine congrArg (·,true) (b9I fun v hv=>Int.le_antisymm ?_ ?_)
 ·exact h2.low.mn g hg.fx hg.low.ge v hv
 ·exact hg.low.mn _ h2.fx h2.low.ge v hv
def b2G {p:c4} {g:Lev} (hg:Low p g) {v:List UInt8} (hv:v∈vwS p) (hn:((vwS p).length:Int) < g v):o0 p=([],false):=by
 rw [o0];cases (f9 p).1==0 with
 | false=>rfl
 | true=>
   rw [W7,dif_neg];rintro ⟨F,hF⟩;have h1:=hg.mn F hF.fx hF.low.ge v hv;have h2:=hF.le v hv;omega
def Low.zero (p:c4):Low p fun _=>0:=⟨fun _=>Int.le_refl _,fun F _ h v _=>h v⟩
def Low.up {p:c4} {g:Lev} (h:Low p g) {r:c6} (hr:r∈p.Rules) (hh:r.Head.Name∈vwS p) {l:c7} (hl:l∈r.Body) (hk:l.Kind≠3) (hb:l.Atom.Name∈vwS p):Low p (upd g r.Head.Name (g l.Atom.Name+a3r l)):=by
 have hn:0<=a3r l:=by unfold a3r;split<;>omega
 refine ⟨fun v=>?_,fun F hF hF0 v hv=>?_⟩
 ·unfold upd;split
  ·have:=h.ge l.Atom.Name;omega
  ·exact h.ge v
 ·unfold upd;split
  ·rename_i e;subst e;have h1:=hF r hr hh l hl hk hb;have h2:=h.mn F hF hF0 _ hb;omega
  ·exact h.mn F hF hF0 v hv
def a1j (p:c4) (g:Lev):Nat:=b3R (fun v=>((vwS p).length+400 - g v).toNat) (vwS p)
def b8q {α:Type} [DecidableEq α] {f f':α->Nat} {x:α}:∀ {l:List α},l.Nodup->x∈l->(∀ y,y≠x->f' y=f y)->f' x < f x->b3R f' l < b3R f l
 | [],_,hx,_,_=>by simp at hx
 | y::l,hn,hx,h1,h2=>by
   rw [q0Z] at hn;simp only [b3R];by_cases e:y=x
   ·subst e;have:∀ {m:List α},¬ y∈m->b3R f' m=b3R f m:=by
     intro m
     induction m with
     | nil=>intro _;rfl
     | cons z m ih=>
       intro hm;simp only [V2,not_or] at hm;simp only [b3R,h1 z (fun e=>hm.1 e.symm),ih hm.2]
    rw [this hn.1];omega
   ·have hx':x∈l:=by
     rcases V2.1 hx with h|h
     ·exact absurd h.symm e
     ·exact h
    have:=b8q hn.2 hx' h1 h2;rw [h1 y e];omega
def lsum_lt {p:c4} {g:Lev} {v:List UInt8} {n:Int} (hv:v∈vwS p) (h:g v < n) (hn:g v < (vwS p).length+400):a1j p (upd g v n) < a1j p g:=by
 refine b8q (a8q p) hv (fun y hy=>by simp [upd,hy]) ?_;simp only [upd,if_true];omega
def a2k (p:c4) (g:Lev):(lvl p g).length=(vwS p).length:=by simp [lvl]
def b5p (p:c4) (g:Lev) {i:Nat} (h:i < (vwS p).length):(lvl p g).getD i default=⟨(vwS p).getD i [],g ((vwS p).getD i [])⟩:=by
 rw [o8 _ (by rw [a2k];exact h),o8 _ h];simp [lvl]
def b8i (p:c4) (g:Lev) {i:Nat} (h:i < (vwS p).length) (n:Int):(lvl p g).set i ⟨(vwS p).getD i [],n⟩=lvl p (upd g ((vwS p).getD i []) n):=by
 have e0:(vwS p).getD i []=(vwS p)[i]:=o8 [] h;rw [e0];apply q4C
 ·simp [lvl]
 ·intro j h1 h2;have hj:j < (vwS p).length:=by simpa [lvl] using h2
  rw [List.getElem_set];split
  ·rename_i e;subst e;simp [lvl,upd]
  ·rename_i e;have hne:(vwS p)[j]≠(vwS p)[i]:=fun h3=>e ((List.getElem_inj (a8q p)).1 h3).symm
   simp [lvl,upd,hne]
end Go.Aw
namespace Go.Aw
open Go.Proofs Go.Shelf Go.RowKit Go.Sort
attribute [local irreducible] aft blk lpK retK AW A0d
set_option linter.all false
set_option maxRecDepth 100000
def b2y (x y:c9):Int:=Lib.compareBytes x.Name y.Name
def b2A (x:c9):List Value:=[encStr x.Name,.int .i64 x.N]
def b3P (a:List c9):List c9:=(pdq (ltOf b2y) a.toArray 0 a.length (Lib.bitLen a.length) true true).toList
def a7b (x y:c9):ltOf b2y x y=sLt x.Name y.Name:=cmp_lt x.Name y.Name
def b2z:SWO (ltOf b2y) where
 irrefl x:=by rw [a7b];exact a3f _
 trans x y z h1 h2:=by rw [a7b] at *;exact a1V _ _ _ h1 h2
 ntrans x y z h1 h2:=by
  rw [a7b] at *;cases h:sLt x.Name z.Name with
  | false=>rfl
  | true=>
    cases h3:sLt y.Name x.Name with
    | true=>
      have h4:sLt y.Name z.Name=true:=a1V _ _ _ h3 h;rw [h4] at h2;exact h2
    | false=>
      have e:=a1C _ _ h1 h3;rw [e,h2] at h;exact h.symm
def b5D {l:List (List UInt8)} (hn:l.Nodup):b3P (l.map fun v=>⟨v,0⟩)=(l7 sLt [] l).map fun v=>⟨v,0⟩:=by
 have hp:=pdq_sorts (ltOf b2y) b2z (l.map fun v=>(⟨v,0⟩:c9)).toArray 0 (l.map fun v=>(⟨v,0⟩:c9)).length (Lib.bitLen (l.map fun v=>(⟨v,0⟩:c9)).length) true true (q2M _) (by simp) (Or.inl rfl);rw [b3P];generalize pdq (ltOf b2y) (l.map fun v=>(⟨v,0⟩:c9)).toArray 0 (l.map fun v=>(⟨v,0⟩:c9)).length (Lib.bitLen (l.map fun v=>(⟨v,0⟩:c9)).length) true true=D at hp ⊢;have hDs:D.size=(l.map fun v=>(⟨v,0⟩:c9)).length:=by have:=hp.1.1;simpa using this
 have hperm:D.toList.Perm (l.map fun v=>(⟨v,0⟩:c9)):=by
  have:=hp.1.2.2;simp only [Array.toList_extract] at this;have e1:(D.toList.extract 0 (l.map fun v=>(⟨v,0⟩:c9)).length)=D.toList:=by simp only [List.extract,q4K,q0P,<- hDs];exact q1B (by simp)
  have e2:((l.map fun v=>(⟨v,0⟩:c9)).toArray.toList.extract 0 (l.map fun v=>(⟨v,0⟩:c9)).length)=(l.map fun v=>(⟨v,0⟩:c9)):=by simp only [List.extract,q4K,q0P];exact q1B (by simp)
  rw [e1,e2] at this;exact this
 have hnames:(D.toList.map c9.Name).Perm l:=by
  have:=hperm.map c9.Name;simpa [Function.comp_def] using this
 have hsorted:(D.toList.map c9.Name).Pairwise fun a b=>sLt b a=false:=by
  rw [List.pairwise_iff_getElem];intro i j hi hj hij;have hi':i < D.size:=by simpa using hi
  have hj':j < D.size:=by simpa using hj
  have:=hp.2 i j (q2M _) hij (by rw [<- hDs];exact hj');rw [a7b,getElem!_pos D i hi',getElem!_pos D j hj'] at this;simpa using this
 have hSS:SS sLt (D.toList.map c9.Name):=SS.of_sorted n7 hsorted (hnames.nodup_iff.2 hn);have he:D.toList.map c9.Name=l7 sLt [] l:=SS.uniq n7 hSS (SS.puts n7 SS.nil) fun x=>by rw [hnames.mem_iff,s6];simp
 have hz:∀ x∈D.toList,x.N=0:=fun x hx=>by
  obtain ⟨v,_,rfl⟩:=q0R.1 (hperm.mem_iff.1 hx);rfl
 rw [<- he,q3O];refine (List.map_id _).symm.trans (q2K fun x hx=>?_);have:=hz x hx;cases x;simp only at this;subst this;rfl
def b8n {F:Nat->Prop} {w:World}:∀ {l:List c9} {vs:List Value} {fp:List Nat},C.RdRows F w (l.map c9.cells) vs fp->vs=l.flatMap b2A/\fp=[]/\∀ n,n∈l->n.Name.length<=maxLen/\IntKind.i64.min<=n.N/\n.N<=IntKind.i64.max
 | [],vs,fp,h=>by
   unfold List.map C.RdRows at h;exact ⟨h.1,h.2,by simp⟩
 | n::l,vs,fp,h=>by
   rw [q0E] at h;unfold C.RdRows at h;obtain ⟨v1,v2,f1,f2,rfl,rfl,h1,h2⟩:=h;obtain ⟨rfl,rfl,h3⟩:=b8n h2;unfold c9.cells C.RdVals at h1;obtain ⟨v,vs',g1,g2,rfl,rfl,k1,k2⟩:=h1;unfold C.RdVals at k2;obtain ⟨u,us',g3,g4,rfl,rfl,k3,k4⟩:=k2;unfold C.RdVals at k4;obtain ⟨rfl,rfl⟩:=k4;unfold C.Rd at k1 k3;obtain ⟨rfl,q1,rfl⟩:=k1;obtain ⟨rfl,q3,rfl⟩:=k3;refine ⟨rfl,rfl,fun m hm=>?_⟩;rcases V2.1 hm with rfl|hm
   ·exact ⟨q1,q3⟩
   ·exact h3 m hm
def b8h {F:Nat->Prop} {w:World}:∀ {l:List c9},(∀ n,n∈l->n.Name.length<=maxLen/\IntKind.i64.min<=n.N/\n.N<=IntKind.i64.max)->C.RdRows F w (l.map c9.cells) (l.flatMap b2A) []
 | [],h=>by unfold List.map C.RdRows;exact ⟨rfl,rfl⟩
 | n::l,h=>by
   rw [q0E,q1P];unfold C.RdRows;refine ⟨b2A n,_,[],[],rfl,rfl, ?_,b8h fun m hm=>h m (by simp [hm])⟩;have hn:=h n (by simp);unfold c9.cells b2A C.RdVals;refine ⟨_,_,[],[],rfl,rfl, ?_, ?_⟩
   ·unfold C.Rd;exact ⟨rfl,hn.1,rfl⟩
   ·unfold C.RdVals;refine ⟨_,[],[],[],rfl,rfl, ?_, ?_⟩
    ·unfold C.Rd;exact ⟨rfl,hn.2,rfl⟩
    ·unfold C.RdVals;exact ⟨rfl,rfl⟩
def b6Y (a b:ByteArray) (w:World):Calls Tryz.prog 42 #[.string a,.string b] w fun e w'=>e=.returned (.int .i64 (Lib.compareBytes a.data.toList b.data.toList))/\w' = w:=by
 have HC:∀ w,Aside (Calls Tryz.prog 103 #[.string a,.string b] w fun e w'=>e=.returned (.int .i64 (Lib.compareBytes a.data.toList b.data.toList))/\w' = w):=fun w=>b2x a b w
 generalize Lib.compareBytes a.data.toList b.data.toList=r at HC ⊢
 go_enter Tryz.func42,Tryz.ntmps42
 go_wp2_with (go_at_call 103;refine (HC _).out.mono ?_;rintro e w' ⟨rfl,rfl⟩)
 go_ret
 exact ⟨rfl,rfl⟩
def b9H (a b:ByteArray) (m n:Int) (W:World):Calls Tryz.prog 41 #[.agg #[.string a,.int .i64 m],.agg #[.string b,.int .i64 n]] W fun e w'=>e=.returned (.int .i64 (Lib.compareBytes a.data.toList b.data.toList))/\∃ q os',w' = grow (W.drewN q) os':=by
 have HC:∀ w,Aside (Calls Tryz.prog 42 #[.string a,.string b] w fun e w'=>e=.returned (.int .i64 (Lib.compareBytes a.data.toList b.data.toList))/\w' = w):=fun w=>b6Y a b w
 generalize Lib.compareBytes a.data.toList b.data.toList=r at HC ⊢
 go_enter Tryz.func41,Tryz.ntmps41
 go_wp2_with (go_at_call 42;refine (HC _).out.mono ?_;rintro e w' ⟨rfl,rfl⟩)
 go_ret
 exact ⟨rfl,0,_,by rw [alloc_eq_grow,alloc_eq_grow,grow_grow];exact rfl⟩
def b9C (a:List c9) (hpre:a.length < 4611686018427387904):spZ 40 [(false,[.sl true [.s [],.i .i64 0] (a.map c9.cells)]),(false,[.f 41 []])] [(0,(false,[.sl true [.s [],.i .i64 0] ((b3P a).map c9.cells)]))] (.tup []):=by
 exact b9S Tryz.sortLev (by kernel_rfl) (k:=2) (fun w=>rfl) (fun w=>rfl) (enc:=b2A) (cf:=c9.cells) rfl (fun _=>rfl) (fun _=>rfl) (fun x v hv=>by simp only [b2A,V2,q3P,or_false] at hv;rcases hv with rfl|rfl<;>rfl) (fun _ _ _ _ _ h=>b8n h) (fun _ _ _ h=>b8h h) b2y b2z (enters_of Tryz.func41 (by kernel_rfl) rfl) (fun W x y=>b9H ⟨x.Name.toArray⟩ ⟨y.Name.toArray⟩ x.N y.N W) a hpre
noncomputable def b2w:CT:=u6 (fun (x:(List c9)) h=>b9C x h)
@[go_sem] def c2a:=fun a=>nm' (fP' b2w rfl a)
end Go.Aw
namespace Go.Aw
open Go.Proofs
attribute [local irreducible] aft blk lpK retK AW A0d
set_option linter.all false
set_option maxRecDepth 100000
def a0p (n:List UInt8) (v:d5) (q:List d5×Bool) (x:d5):List d5×Bool:=((bif !q.2&&!sLt x.Name n then q.1++[v] else q.1)++(bif x.Name==n then [] else [x]),q.2 || !sLt x.Name n)
def a5q (n:List UInt8) (v:d5) (l:List d5):List d5×Bool:=l.foldl (a0p n v) ([],false)
def a8o (l:List d5) (n:List UInt8) (v:d5):List d5:=bif (a5q n v l).2 then (a5q n v l).1 else (a5q n v l).1++[v]
def a3l (n:List UInt8) (v:d5) {l:List d5} {i:Nat} (h:i < l.length):a5q n v (l.take (i+1))=a0p n v (a5q n v (l.take i)) (l.getD i default):=by
 rw [i6 default h,a5q,q3B];rfl
def b8e (n:List UInt8) (v:d5):∀ (A q:List d5),(∀ x∈A,sLt x.Name n=true)->A.foldl (a0p n v) (q,false)=(q++A,false)
 | [],q,_=>by simp
 | x::A,q,h=>by
   have hx:=h x (by simp);have hne:(x.Name==n)=false:=beq_eq_false_iff_ne.2 (n7.ne hx);rw [q1T,a0p,hx,hne];have:=b8e n v A (q++[x]) fun y hy=>h y (by simp [hy])
   simpa using this
def a7P (n:List UInt8) (v:d5):∀ (B q:List d5),B.foldl (a0p n v) (q,true)=(q++B.filter fun x=>!(x.Name==n),true)
 | [],q=>by simp
 | x::B,q=>by
   rw [q1T,a0p];cases h:(x.Name==n) with
   | true=>
     have:=a7P n v B q;simpa [h] using this
   | false=>
     have:=a7P n v B (q++[x]);simpa [h] using this
def b7v {α:Type} {q:α->Bool}:∀ {l:List α} {x:α},x∈l.takeWhile q->q x=true
 | [],x,h=>by simp at h
 | a::l,x,h=>by
   rw [q2L] at h;split at h
   ·rename_i ha;rcases V2.1 h with rfl|h
    ·exact ha
    ·exact b7v h
   ·simp at h
def b3N (l:List d5) (n:List UInt8) (v:d5):a8o l n v=l.takeWhile (fun x=>sLt x.Name n)++v::(l.dropWhile fun x=>sLt x.Name n).filter fun x=>!(x.Name==n):=by
 have e:a5q n v l=(l.dropWhile fun x=>sLt x.Name n).foldl (a0p n v) (l.takeWhile (fun x=>sLt x.Name n),false):=by
  have h0:=b8e n v (l.takeWhile fun x=>sLt x.Name n) [] fun x hx=>b7v (q:=fun x:d5=>sLt x.Name n) hx
  rw [q1R] at h0;rw [<- h0,<- q3B,q1N];rfl
 rw [a8o,e];cases hB:l.dropWhile fun x=>sLt x.Name n with
 | nil=>simp
 | cons b B=>
   have hb:=a0I hB;rw [q1T,a0p,hb];simp only [Bool.not_false,q1H,W7,q3H];rw [a7P];cases hn:(b.Name==n) with
   | true=>simp [hn]
   | false=>simp [hn]
def b7r {l:List d5} (hs:SS sLt (l.map d5.Name)) (n:List UInt8) (r:e7):(a8o l n ⟨n,r⟩).map d5.Name=a0Y sLt (l.map d5.Name) n:=by
 have hsplit:l=l.takeWhile (fun x=>sLt x.Name n)++l.dropWhile (fun x=>sLt x.Name n):=q1N.symm;have hA:∀ x∈l.takeWhile (fun x=>sLt x.Name n),sLt x.Name n=true:=fun x hx=>b7v (q:=fun x:d5=>sLt x.Name n) hx
 have hBn:∀ x∈l.dropWhile (fun x=>sLt x.Name n),sLt x.Name n=false:=by
  cases hB:l.dropWhile fun x=>sLt x.Name n with
  | nil=>intro x hx;simp at hx
  | cons b B=>
    have hb:=a0I hB;intro x hx;rcases V2.1 hx with rfl|hx
    ·exact hb
    ·have hp:(l.dropWhile fun x=>sLt x.Name n).Pairwise fun a b=>sLt a.Name b.Name=true:=by
      have:=q4B.1 hs;rw [hsplit] at this;exact (List.pairwise_append.1 this).2.1
     rw [hB] at hp;have h1:=(List.pairwise_cons.1 hp).1 x hx;cases h2:sLt x.Name n with
     | false=>rfl
     | true=>
       have h3:sLt b.Name n=true:=a1V _ _ _ h1 h2;rw [h3] at hb;exact hb
 refine SS.uniq n7 ?_ (SS.put n7 hs n) fun x=>?_
 ·rw [b3N];show SS sLt _;rw [SS,q4B];have hp:=q4B.1 hs;rw [hsplit] at hp;obtain ⟨p1,p2,p3⟩:=List.pairwise_append.1 hp;have hgt:∀ x∈(l.dropWhile fun x=>sLt x.Name n).filter (fun x=>!(x.Name==n)),sLt n x.Name=true:=fun x hx=>by
   obtain ⟨h1,h2⟩:=q0V.1 hx;have h3:=hBn x h1;cases h4:sLt n x.Name with
   | true=>rfl
   | false=>
     have h5:=a1C _ _ h3 h4;rw [h5] at h2;simp at h2
  refine List.pairwise_append.2 ⟨p1,List.pairwise_cons.2 ⟨hgt,p2.filter _⟩,fun a ha b hb=>?_⟩;rcases V2.1 hb with rfl|hb
  ·exact hA a ha
  ·exact a1V _ _ _ (hA a ha) (hgt b hb)
 ·rw [b5r,b3N];simp only [q0Y,q0E,W5,V2,q0R,q0V];constructor
  ·rintro (⟨y,hy,rfl⟩|rfl|⟨y,⟨hy,_⟩,rfl⟩)
   ·exact .inr ⟨y,by rw [hsplit];exact W5.2 (.inl hy),rfl⟩
   ·exact .inl rfl
   ·exact .inr ⟨y,by rw [hsplit];exact W5.2 (.inr hy),rfl⟩
  ·rintro (rfl|⟨y,hy,rfl⟩)
   ·exact .inr (.inl rfl)
   ·rw [hsplit] at hy;rcases W5.1 hy with hy|hy
    ·exact .inl ⟨y,hy,rfl⟩
    ·by_cases e:y.Name=n
     ·exact .inr (.inl e)
     ·exact .inr (.inr ⟨y,⟨hy,by simpa using e⟩,rfl⟩)
def c1w {l:List d5} {n:List UInt8} {v x:d5} (h:x∈a8o l n v):x=v\/x∈l:=by
 rw [b3N] at h;rcases W5.1 h with h|h
 ·exact .inr (List.takeWhile_sublist _ |>.mem h)
 ·rcases V2.1 h with h|h
  ·exact .inl h
  ·exact .inr (List.dropWhile_sublist _ |>.mem (q0V.1 h).1)
def u5 (l:List d3):List d5:=l.foldl (fun s d=>a8o s d.Name ⟨d.Name,⟨d.Arity,[]⟩⟩) []
def a6K:∀ l:List d3,(u5 l).map d5.Name=l7 sLt [] (l.map d3.Name):=by
 intro l;have gen:∀ (l:List d3) (s:List d5),SS sLt (s.map d5.Name)->(l.foldl (fun s d=>a8o s d.Name ⟨d.Name,⟨d.Arity,[]⟩⟩) s).map d5.Name=l7 sLt (s.map d5.Name) (l.map d3.Name):=by
  intro l
  induction l with
  | nil=>intro s _;rfl
  | cons d l ih=>
    intro s hs;have e:=b7r hs d.Name ⟨d.Arity,[]⟩;have hs2:SS sLt ((a8o s d.Name ⟨d.Name,⟨d.Arity,[]⟩⟩).map d5.Name):=by rw [e];exact SS.put n7 hs _
    rw [q1T,ih _ hs2,e];rfl
 exact gen l [] SS.nil
def b4R:∀ l:List d3,∀ x∈u5 l,x.Rel.Rows=[]:=by
 intro l;have gen:∀ (l:List d3) (s:List d5),(∀ x∈s,x.Rel.Rows=[])->∀ x∈l.foldl (fun s d=>a8o s d.Name ⟨d.Name,⟨d.Arity,[]⟩⟩) s,x.Rel.Rows=[]:=by
  intro l
  induction l with
  | nil=>intro s h;exact h
  | cons d l ih=>
    intro s h;rw [q1T];refine ih _ fun x hx=>?_
    rcases c1w hx with rfl|hx
    ·rfl
    ·exact h x hx
 exact gen l [] (by simp)
def b0B (l:List d3):(u5 l).length<=l.length:=by
 have h:=congrArg List.length (a6K l);have h2:=a0L sLt (l.map d3.Name) [];simp only [q1Z,q0T] at h h2;omega
set_option maxHeartbeats 40000000
attribute [local irreducible] RM
def a8a (a:Int):spZ 204 [(true,[.i .i64 a,.sl false a0Q []])] [] (.one (true,[.i .i64 ((⟨a,[]⟩:e7).Arity),kFRow ((⟨a,[]⟩:e7).Rows)])):=by
 refine sx' false true none Tryz.func204 (q' 1 [ao (.box 2 (.t 0)),aw [.i .i64,.sl a0Q]] (q' 5 [aG 0 1,ao (.bld [.i .i64,.sl a0Q] [(0,1,.t 6)]),ax (w' 3 [.i .i64,.sl a0Q]),aS 2 3 7] (.seq (q' 8 [aG 1 1,aN,aK 0] (.block 0 (.loop (q' 12 [ar 11 10] (.seq (.cond (.t 12) .skip (.exit 0)) (.seq (.block 1 (q' 13 [am 11,aV 4] (rm' [(true,2,f' 16 1 1),(true,3,l' 17 16),(true,4,m' 18 4),(true,5,i' 19 1 17 18),(true,6, e' 20 1 19),(false,0,f' 14 1 3),(false,1,l' 15 14),(false,7,c' 21 270 [20]),(false,8,o' 22 (.bsl 1 1 [.sl b8s] [(0,.t 21)])), (false,9,o' 23 (.app 1 24 [.sl b8s] (.t 15) (.t 22))),(false,10,f' 24 1 3),(false,11,s' 1 24 23)] [[0,1,2,3,4,5,7,6,8,9,10, 11],[0,1,2,3,4,5,7,8,6,9,10,11],[0,1,2,3,4,7,5,6,8,9,10,11],[0,1,2,3,4,7,5,8,6,9,10,11],[0,1,2,3,4,7,8,5,6,9, 10,11]] [2,3]))) (g' 25 [aA 11]))))))) (q' 26 [ae 2 3,aS 2 2 26] .ret)))) [.c 2 true 2] [] ?_;intro hb hE;simp only [go_sem];(repeat' first|apply cj'|intro hc|apply a3u);(all_goals (try ((first|refine a1D 5 rfl ?_);intro S hS B0 hB;simp only [go_sem,q0I,q1Y] at hS hB;(repeat (first|replace hS:=And.right hS|replace hS:=CJ.r hS));have Rr1:=congrArg (fun s:St=>s.sl 1) hS;have Rr3:=congrArg (fun s:St=>s.sl 3) hS;have Rr4:=congrArg (fun s:St=>s.sl 4) hS;have Rb2:=congrArg (fun s:St=>s.bx 2) hS;have Rb3:=congrArg (fun s:St=>s.bx 3) hS;have Rb4:=congrArg (fun s:St=>s.bx 4) hS;have Rb6:=congrArg (fun s:St=>s.bx 6) hS;clear hS;simp only [go_sem] at Rr1 Rr3 Rr4 Rb2 Rb3 Rb4 Rb6;(try clear hc);intro K hc;simp only [go_sem,Rr1,Rr3,Rr4,Rb2,Rb3,Rb4,Rb6,hB,q0E,q1O,q0F,q0P] at hc ⊢;simp only [go_sem,Rr1,Rr3,Rr4,Rb2,Rb3,Rb4,Rb6,hB,A7d,A7h,A6v,A6u,A7c,A6t,nf_put_sub,A7f,A7e,nf_put_susK,nf_put_dip,nf_put_put,A7g,A7b,A6w,u2,u0,t8,t9,u1,nf_sub_sub] at hc ⊢;simp only [hc,q1X,q0M];done)));all_goals try exact om'
 refine lq' false [1,2,3,10] [2,4,3] [] (fun i:Unit=>[(11,slV (.i .i64 0))]) (fun i=>[(6,[.c (.i .i64 a),.nl a0Q])]) nl' (fun i=>0) () ?_;intro S0 hS0 i;simp only [go_sem,hS0];(repeat' first|apply cj'|intro hc|apply a3u);(all_goals (try ((first|refine a1D 5 rfl ?_);intro S hS B0 hB;simp only [go_sem,hS0,q0I,q1Y] at hS hB;(repeat (first|replace hS:=And.right hS|replace hS:=CJ.r hS));have Rr1:=congrArg (fun s:St=>s.sl 1) hS;have Rr3:=congrArg (fun s:St=>s.sl 3) hS;have Rr4:=congrArg (fun s:St=>s.sl 4) hS;have Rb2:=congrArg (fun s:St=>s.bx 2) hS;have Rb3:=congrArg (fun s:St=>s.bx 3) hS;have Rb4:=congrArg (fun s:St=>s.bx 4) hS;have Rb6:=congrArg (fun s:St=>s.bx 6) hS;clear hS;simp only [go_sem,hS0] at Rr1 Rr3 Rr4 Rb2 Rb3 Rb4 Rb6;(try clear hc);intro K hc;simp only [go_sem,hS0,Rr1,Rr3,Rr4,Rb2,Rb3,Rb4,Rb6,hB,q0E,q1O,q0F,q0P] at hc ⊢;simp only [go_sem,hS0,Rr1,Rr3,Rr4,Rb2,Rb3,Rb4,Rb6,hB,A7d,A7h,A6v,A6u,A7c,A6t,nf_put_sub,A7f,A7e,nf_put_susK,nf_put_dip,nf_put_put,A7g,A7b,A6w,u2,u0,t8,t9,u1,nf_sub_sub] at hc ⊢;simp only [hc,q1X,q0M];done)));all_goals try exact om'
 all_goals first
  | (exfalso;simp at hc;done)
  | (exfalso;simp at *;done)
  | trace_state
noncomputable def a2S:CT:=i8 (fun (x:Int)=>a8a x)
@[go_sem] def b5W:=fun a=>nm' (fQ' a2S rfl a)
def c1n (n x:List UInt8):(Op.bytesLess n x || n==x)=!sLt x n:=by
 cases h1:Op.bytesLess n x with
 | true=>
   cases h2:sLt x n with
   | true=>have h3:=a1V _ _ _ h1 h2;rw [a3f] at h3;cases h3
   | false=>rfl
 | false=>
   cases h2:sLt x n with
   | true=>
     have:(n==x)=false:=beq_eq_false_iff_ne.2 fun e=>by subst e;have h3:sLt n n=false:=a3f n;rw [h3] at h2;cases h2
     rw [this];rfl
   | false=>rw [a1C _ _ h1 h2];simp
def b2O {n:List UInt8} {v x:d5} {q1:List d5} {q2:Bool} (h:q2=false/\(Op.bytesLess n x.Name=true\/(n==x.Name)=true)):a0p n v (q1,q2) x=(q1++[v]++(bif x.Name==n then [] else [x]),true):=by
 have h2:(!sLt x.Name n)=true:=by rw [<- c1n,q1S];exact h.2
 rw [a0p,h.1,h2];rfl
def b5F {n:List UInt8} {v x:d5} {q1:List d5} {q2:Bool} (h:(!q2&&(Op.bytesLess n x.Name || n==x.Name))=false):a0p n v (q1,q2) x=(q1++(bif x.Name==n then [] else [x]),q2):=by
 rw [c1n] at h;rw [a0p,h,W8];cases q2 with
 | true=>rfl
 | false=>
   have h2:(!sLt x.Name n)=false:=by simpa using h
   rw [h2];rfl
def b2C (n:List UInt8) (v:d5):∀ (l q:List d5) (b:Bool),(l.foldl (a0p n v) (q,b)).1.length<=q.length+2 * l.length
 | [],q,b=>by simp
 | x::l,q,b=>by
   rw [q1T];have h:=b2C n v l (a0p n v (q,b) x).1 (a0p n v (q,b) x).2;have h2:(a0p n v (q,b) x).1.length<=q.length+2:=by
    simp only [a0p];cases !b&&!sLt x.Name n<;>cases x.Name==n<;>simp<;>omega
   have e:((a0p n v (q,b) x).1,(a0p n v (q,b) x).2)=a0p n v (q,b) x:=rfl;rw [e] at h;simp only [W9];omega
def a3k {x:d5} (h:x.Rel.Rows=[]):d5.cells false false x=[.s x.Name,.i .i64 x.Rel.Arity,.sl false a0Q []]:=by
 cases x with
 | mk a b=>
   cases b with
   | mk c d=>cases h;rfl
def b2h (s:f5) (n:List UInt8) (r:e7) (hpre:((∀ x∈s.Rels,x.Rel.Rows=[])/\r.Rows=[])/\s.Rels.length<=1000):spZ 105 [(true,[a3p s.Rels]),(false,[.s n]),(true,[.i .i64 r.Arity,kFRow r.Rows])] [] (.one (true,[a3p ((⟨a8o s.Rels n ⟨n,⟨r.Arity,[]⟩⟩⟩:f5).Rels)])):=by
 refine sx' false true none Tryz.func105 (q' 5 [ax (o' 3 (.box 1 (.t 0))),ao (.box 2 (.t 2)),aw [.sl a1b]] (q' 7 [ax (o' 10 (.bld [.sl a1b] [])),aw [.sl a1b],aS 1 7 10] (q' 0 [ab 8 false] (.seq (q' 11 [aG 0 3,aN,aK 0] (.block 0 (.loop (q' 15 [ar 14 13] (.seq (.cond (.t 15) .skip (.exit 0)) (.seq (.block 1 (q' 16 [am 14,aV 9] (.seq (q' 17 [am 8,ao (.not (.t 17)),am 18,au (.mov (.t 1)) 19 true,au (.fa 0 (.t 3)) 19 true,au (.ld false 1 (.t 21)) 19 true,au (.mov (.t 9)) 19 true,au (.ia 3 (.t 22) (.t 23)) 19 true,au (.fa 0 (.t 24)) 19 true,au (.ld false 1 (.t 25)) 19 true,au (.bin .leq (.t 20) (.t 26)) 19 true,ao (.pick (.t 19) (.t 27) (bb false))] (.cond (.t 28) (.seq (rm' [(true,2,m' 31 1),(true,3,e' 32 2 5),(false,0,f' 29 0 7),(false,1,l' 30 29),(false,4,c' 33 204 [32]), (false,5,o' 34 (.bld [.s,.i .i64,.sl a0Q] [(0,1,.t 31),(1,2,.t 33)])),(false,6,o' 35 (.bsl 3 1 [.s,.i .i64,.sl a0Q] [(0,.t 34)])),(false,7,o' 36 (.app 3 48 [.s,.i .i64,.sl a0Q] (.t 30) (.t 35))),(false, 8,f' 37 0 7),(false,9,s' 1 37 36)] [[0,1,2,4,3,5,6,7,8,9],[0,1,2,4,5,3,6,7,8,9],[0,1,2,4,5,6,3,7,8,9],[0,1,4,2,3,5,6, 7,8,9],[0,1,4,2,5,3,6,7,8,9],[0,1,4,2,5,6,3,7,8,9],[0,1,4,5,2,3,6,7,8,9],[0,1,4,5,2,6,3,7,8,9],[0,1,4,5,6,2, 3,7,8,9]] [10,11]) (g' 0 [ab 8 true])) .skip)) (q' 38 [aG 0 3,am 9,aI 3,aG 0 41,am 1,ao (.bin .neq (.t 43) (.t 44))] (.cond (.t 45) (rm' [(true,2,f' 48 0 3),(true,3,l' 49 48),(true,4,m' 50 9),(true,5,i' 51 3 49 50),(true,6,f' 52 0 51),(true,7,l' 53 52),(true,8,f' 54 0 3),(true,9,l' 55 54),(true,10,m' 56 9),(true,11,i' 57 3 55 56),(true,12,f' 58 1 57),(true,13,e' 59 2 58),(false,0,f' 46 0 7),(false,1,l' 47 46),(false,14, c' 60 204 [59]),(false,15,o' 61 (.bld [.s,.i .i64,.sl a0Q] [(0,1,.t 53),(1,2,.t 60)])),(false,16,o' 62 (.bsl 3 1 [.s,.i .i64,.sl a0Q] [(0,.t 61)])),(false,17,o' 63 (.app 3 48 [.s,.i .i64,.sl a0Q] (.t 47) (.t 62))),(false,18,f' 64 0 7),(false,19,s' 1 64 63)] [[0,1,2,3,4,5,6,7,8,9,10,11,12,14,13,15,16,17,18,19],[0,1,2,3,4,5,6,7, 8,9,10,11,12,14,15,13,16,17,18,19],[0,1,2,3,4,5,6,7,8,9,10,11,12,14,15,16,13,17,18,19],[0,1,2,3,4,5,6,7,8,9,10,11, 14,12,13,15,16,17,18,19],[0,1,2,3,4,5,6,7,8,9,10,11,14,12,15,13,16,17,18,19],[0,1,2,3,4,5,6,7,8,9,10,11,14,12,15, 16,13,17,18,19],[0,1,2,3,4,5,6,7,8,9,10,11,14,15,12,13,16,17,18,19],[0,1,2,3,4,5,6,7,8,9,10,11,14,15,12,16,13,17, 18,19],[0,1,2,3,4,5,6,7,8,9,10,11,14,15,16,12,13,17,18,19]] [6,7]) .skip))))) (g' 65 [aA 14]))))))) (.seq (q' 66 [am 8,ao (.not (.t 66))] (.cond (.t 67) (rm' [(true,2,m' 70 1),(true,3,e' 71 2 5),(false,0,f' 68 0 7),(false,1,l' 69 68),(false,4,c' 72 204 [71]),(false,5,o' 73 (.bld [.s,.i .i64,.sl a0Q] [(0,1,.t 70),(1,2,.t 72)])),(false,6,o' 74 (.bsl 3 1 [.s,.i .i64,.sl a0Q] [(0,.t 73)])),(false,7,o' 75 (.app 3 48 [.s,.i .i64,.sl a0Q] (.t 69) (.t 74))),(false,8,f' 76 0 7), (false,9,s' 1 76 75)] [[0,1,2,4,3,5,6,7,8,9],[0,1,2,4,5,3,6,7,8,9],[0,1,2,4,5,6,3,7,8,9],[0,1,4,2,3,5,6,7,8,9],[0, 1,4,2,5,3,6,7,8,9],[0,1,4,2,5,6,3,7,8,9],[0,1,4,5,2,3,6,7,8,9],[0,1,4,5,2,6,3,7,8,9],[0,1,4,5,6,2,3,7,8,9]] [10,11]) .skip)) (q' 77 [ae 1 7,aS 1 6 77] .ret)))))) [.c 6 true 1] [(204,[],a2S)] ?_;intro hb hE;obtain ⟨⟨hz,hr⟩,hlen⟩:=hpre;have hgz:∀ i,(s.Rels.getD i default).Rel.Rows=[]:=fun i=>by
  by_cases h:i < s.Rels.length
  ·exact hz _ (A3w h)
  ·rw [show s.Rels.getD i default=default by simp [List.getD,q3K (by omega:s.Rels.length<=i)]];rfl
 simp only [go_sem,hr,hgz];(repeat' first|apply cj'|intro hc|apply a3u);(all_goals (try ((first|refine a1D 12 rfl ?_|refine a1D 2 rfl ?_);intro S hS B0 hB;simp only [go_sem,hr,hgz,q0I,q1Y] at hS hB;(repeat (first|replace hS:=And.right hS|replace hS:=CJ.r hS));have Rr7:=congrArg (fun s:St=>s.sl 7) hS;have Rr31:=congrArg (fun s:St=>s.sl 31) hS;have Rr32:=congrArg (fun s:St=>s.sl 32) hS;have Rr53:=congrArg (fun s:St=>s.sl 53) hS;have Rr59:=congrArg (fun s:St=>s.sl 59) hS;have Rr70:=congrArg (fun s:St=>s.sl 70) hS;have Rr71:=congrArg (fun s:St=>s.sl 71) hS;have Rb6:=congrArg (fun s:St=>s.bx 6) hS;have Rb7:=congrArg (fun s:St=>s.bx 7) hS;have Rb10:=congrArg (fun s:St=>s.bx 10) hS;have Rb11:=congrArg (fun s:St=>s.bx 11) hS;have Rb14:=congrArg (fun s:St=>s.bx 14) hS;have Ro200028:=congrArg (fun s:St=>s.ow 200028) hS;have Ro4608:=congrArg (fun s:St=>s.ow 4608) hS;clear hS;simp only [go_sem,hr,hgz] at Rr7 Rr31 Rr32 Rr53 Rr59 Rr70 Rr71 Rb6 Rb7 Rb10 Rb11 Rb14 Ro200028 Ro4608;(try clear hc);intro K hc;simp only [go_sem,hr,hgz,Rr7,Rr31,Rr32,Rr53,Rr59,Rr70,Rr71,Rb6,Rb7,Rb10,Rb11,Rb14,Ro200028,Ro4608,hB,q0E,q1O,q0F,q0P] at hc ⊢;simp only [go_sem,hr,hgz,Rr7,Rr31,Rr32,Rr53,Rr59,Rr70,Rr71,Rb6,Rb7,Rb10,Rb11,Rb14,Ro200028,Ro4608,hB,A7d,A7h,A6v,A6u,A7c,A6t,nf_put_sub,A7f,A7e,nf_put_susK,nf_put_dip,nf_put_put,A7g,A7b,A6w,u2,u0,t8,t9,u1,nf_sub_sub] at hc ⊢;simp only [hc,q1X,q0M];done)));all_goals try exact om'
 refine lk' false [(true,14,0,200028)] [1,3,5,6,7,13] [6,10,12,7,11] [] (fun i:{i:Nat // i<=s.Rels.length}=>[(8,slV (.b (a5q n ⟨n,⟨r.Arity,[]⟩⟩ (s.Rels.take i.1)).2)),(14,slV (.i .i64 i.1))]) (fun i=>[(14,[.ow 200028])]) (fun i=>[(200028,a1b,((a5q n ⟨n,⟨r.Arity,[]⟩⟩ (s.Rels.take i.1)).1).map (d5.cells false false))]) (fun i=>s.Rels.length - i.1) (⟨0,by simp⟩) ?_;intro S0 hS0 i;obtain ⟨i,hi⟩:=i;generalize hfo:a5q n ⟨n,⟨r.Arity,[]⟩⟩ (s.Rels.take i)=q;obtain ⟨q1,q2⟩:=q;have hql:q1.length<=2 * i:=by
  have h:=b2C n ⟨n,⟨r.Arity,[]⟩⟩ (s.Rels.take i) [] false;rw [show (s.Rels.take i).foldl (a0p n ⟨n,⟨r.Arity,[]⟩⟩) ([],false)=(q1,q2) from hfo] at h;rw [q0K] at h;simp only [q0T] at h;omega
 simp only [go_sem,hr,hgz,hS0,hfo];(repeat' first|apply cj'|intro hc|apply a3u);(all_goals (try ((first|refine a1D 12 rfl ?_|refine a1D 2 rfl ?_);intro S hS B0 hB;simp only [go_sem,hr,hgz,hS0,hfo,q0I,q1Y] at hS hB;(repeat (first|replace hS:=And.right hS|replace hS:=CJ.r hS));have Rr7:=congrArg (fun s:St=>s.sl 7) hS;have Rr31:=congrArg (fun s:St=>s.sl 31) hS;have Rr32:=congrArg (fun s:St=>s.sl 32) hS;have Rr53:=congrArg (fun s:St=>s.sl 53) hS;have Rr59:=congrArg (fun s:St=>s.sl 59) hS;have Rr70:=congrArg (fun s:St=>s.sl 70) hS;have Rr71:=congrArg (fun s:St=>s.sl 71) hS;have Rb6:=congrArg (fun s:St=>s.bx 6) hS;have Rb7:=congrArg (fun s:St=>s.bx 7) hS;have Rb10:=congrArg (fun s:St=>s.bx 10) hS;have Rb11:=congrArg (fun s:St=>s.bx 11) hS;have Rb14:=congrArg (fun s:St=>s.bx 14) hS;have Ro200028:=congrArg (fun s:St=>s.ow 200028) hS;have Ro4608:=congrArg (fun s:St=>s.ow 4608) hS;clear hS;simp only [go_sem,hr,hgz,hS0,hfo] at Rr7 Rr31 Rr32 Rr53 Rr59 Rr70 Rr71 Rb6 Rb7 Rb10 Rb11 Rb14 Ro200028 Ro4608;(try clear hc);intro K hc;simp only [go_sem,hr,hgz,hS0,hfo,Rr7,Rr31,Rr32,Rr53,Rr59,Rr70,Rr71,Rb6,Rb7,Rb10,Rb11,Rb14,Ro200028,Ro4608,hB,q0E,q1O,q0F,q0P] at hc ⊢;simp only [go_sem,hr,hgz,hS0,hfo,Rr7,Rr31,Rr32,Rr53,Rr59,Rr70,Rr71,Rb6,Rb7,Rb10,Rb11,Rb14,Ro200028,Ro4608,hB,A7d,A7h,A6v,A6u,A7c,A6t,nf_put_sub,A7f,A7e,nf_put_susK,nf_put_dip,nf_put_put,A7g,A7b,A6w,u2,u0,t8,t9,u1,nf_sub_sub] at hc ⊢;simp only [hc,q1X,q0M];done)));all_goals try exact om'
 ·rename_i hy;have hs:=a3l n ⟨n,⟨r.Arity,[]⟩⟩ (l:=s.Rels) (i:=i) (by omega);rw [hfo,b2O hy,hc] at hs;simp only [W7,W8,q0D] at hs
  (refine lpK_n2 (⟨i+1,by omega⟩) _ (by simp only [go_sem,hr,hgz];try rfl) ?_;simp only [go_sem,hr,hgz,hS0,hfo,hs]<;>repeat' first|apply V0|exact on'|fail)
  all_goals first|done|(simp only [q0Y,q0E,q1O,a3k (hgz i),C.freeRs,q0N];first|done|rfl)|trace_state
 ·rename_i hy;have hs:=a3l n ⟨n,⟨r.Arity,[]⟩⟩ (l:=s.Rels) (i:=i) (by omega);rw [hfo,b2O hy,hc] at hs;simp only [W7,W8,q0D] at hs
  (refine lpK_n2 (⟨i+1,by omega⟩) _ (by simp only [go_sem,hr,hgz];try rfl) ?_;simp only [go_sem,hr,hgz,hS0,hfo,hs]<;>repeat' first|apply V0|exact on'|fail)
  all_goals first|done|(simp only [q0Y,q0E,q1O,a3k (hgz i),C.freeRs,q0N];first|done|rfl)|trace_state
 ·rename_i hy;have hs:=a3l n ⟨n,⟨r.Arity,[]⟩⟩ (l:=s.Rels) (i:=i) (by omega);rw [hfo,b5F hy,hc] at hs;simp only [W7,W8,q0D] at hs
  (refine lpK_n2 (⟨i+1,by omega⟩) _ (by simp only [go_sem,hr,hgz];try rfl) ?_;simp only [go_sem,hr,hgz,hS0,hfo,hs]<;>repeat' first|apply V0|exact on'|fail)
  all_goals first|done|(simp only [q0Y,q0E,q1O,a3k (hgz i),C.freeRs,q0N];first|done|rfl)|trace_state
 ·rename_i hy;have hs:=a3l n ⟨n,⟨r.Arity,[]⟩⟩ (l:=s.Rels) (i:=i) (by omega);rw [hfo,b5F hy,hc] at hs;simp only [W7,W8,q0D] at hs
  (refine lpK_n2 (⟨i+1,by omega⟩) _ (by simp only [go_sem,hr,hgz];try rfl) ?_;simp only [go_sem,hr,hgz,hS0,hfo,hs]<;>repeat' first|apply V0|exact on'|fail)
  all_goals first|done|(simp only [q0Y,q0E,q1O,a3k (hgz i),C.freeRs,q0N];first|done|rfl)|trace_state
 ·have hn:¬ i < s.Rels.length:=by omega
  rw [g9 (by omega)] at hfo;rw [a8o,hfo,hc];simp only [W8];have e2:=a2r false false (q1++[(⟨n,⟨r.Arity,[]⟩⟩:d5)]);rw [q0Y] at e2 ⊢;first|exact e2|rfl
 ·rw [g9 (by omega)] at hfo;rw [a8o,hfo,hc];rfl
noncomputable def a2B:CT:=u6 (fun (x:f5×(List UInt8)×e7) h=>b2h x.1 x.2.1 x.2.2 h)
@[go_sem] def a7K:=fun x0 n x1 x2=>nm' (fP' a2B rfl (⟨x0⟩,n,⟨x1,x2⟩))
end Go.Aw
