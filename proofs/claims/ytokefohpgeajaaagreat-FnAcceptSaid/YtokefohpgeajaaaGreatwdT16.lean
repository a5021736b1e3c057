/- Names in programs. No condition. -/
import Derived.Test.YtokefohpgeajaaaGreatwdG3
import Derived.Test.YtokefohpgeajaaaGreatqBx10wd
namespace Go.Aw
open Go.Proofs
attribute [local irreducible] aft blk lpK retK AW A0d
set_option linter.all false
set_option maxRecDepth 100000
def pkB:List UInt8:=[112,97,99,107,101,116]
def fwB:List UInt8:=[102,111,114,119,97,114,100]
def a3l (p:c5) (name:List UInt8):Int:=bif name==pkB then 4 else bif name==fwB then 1 else bif a1i p name then (a0L p name).Arity else -1
def a1b (p:c5) (name:List UInt8):Int:=(a0L p name).Kind
def movB (p:c5) (name:List UInt8):Bool:=name==pkB || a1b p name==2
def q0 (r:c6):List d4:=r.Head::(r.Body.filter fun l=>!(l.Kind==3)).map c7.Atom
def a7T (p:c5) (l:c7):Bool:=!(l.Kind==3)&&movB p l.Atom.Name
def c0v (p:c5) (r:c6):Bool:=decide ((0:Int) < r.Body.length)&&(r.Body.getD 0 default).Kind==1&&(movB p (r.Body.getD 0 default).Atom.Name&&(!(r.Kind==1) || (r.Body.getD 0 default).Atom.Name==pkB))
def b1q (p:c5) (r:c6):Bool:=bif !(r.Kind==1) || r.Head.Name==fwB then c0v p r&&!(r.Body.drop 1).any (a7T p) else !r.Body.any (a7T p)
def a3X (p:c5) (a:d4):Bool:=decide (a3l p a.Name < 0)
def a3Y (p:c5) (a:d4):Bool:=!(a3l p a.Name==(a.Args.length:Int))
def b1r (a:d4):Bool:=a.Name==fwB
def a3n (p:c5) (r:c6):Bool:=bif r.Kind==1 then !(a1b p r.Head.Name==3)&&!(r.Head.Name==fwB) else !(a1b p r.Head.Name==1)
def u4 (p:c5) (r:c6):Int:=bif (q0 r).any (a3X p) then 3 else bif (q0 r).any (a3Y p) then 4 else bif a3n p r then 5 else bif ((q0 r).drop 1).any b1r then 6 else bif !b1q p r then 7 else 0
def s8 (p:c5) (i:Nat):Bool:=(p.Decls.getD i default).Name==pkB || (p.Decls.getD i default).Name==fwB || (p.Decls.take i).any fun x=>x.Name==(p.Decls.getD i default).Name
def y9 (p:c5) (i:Nat):Bool:=!(u4 p (p.Rules.getD i default)==0)
def i6 (p:c5):Int×Int:=
 bif !p8 p then (1,0) else
 if a3a p.Decls.length (s8 p) < p.Decls.length then (2,(a3a p.Decls.length (s8 p):Int)) else
 if a3a p.Rules.length (y9 p) < p.Rules.length then (u4 p (p.Rules.getD (a3a p.Rules.length (y9 p)) default),(a3a p.Rules.length (y9 p):Int)) else (0,0)
def atB (l:c7):Bool:=!(l.Kind==3)
def c2w (r:c6):(q0 r).length<=r.Body.length+1:=by
 have:=b1o (fun l:c7=>!(l.Kind==3)) c7.Atom r.Body;simp only [q0,W7];omega
def b2c (r:c6):1<=(q0 r).length:=by simp [q0]
def b4j (r:c6):q0 r=r.Head::(r.Body.filter atB).map c7.Atom:=rfl
def b4U (p:c5) (name:List UInt8):spZ 218 [(true,[o8 p.Decls,n7 p.Rules]),(false,[.s name])] [] (.one (false,[.i .i64 (a3l p name)])):=by
 refine sy' Tryz.func218 (q' 2 [ao (.box 2 (.t 0)),az 4 0] (.seq (q' 7 [am 1] (.block 0 (q' 9 [ao (.bin .eql (.t 7) (.k (.v false [.c (.s [112,97,99,107,101,116])]))),aV 8] (.cond (.t 8) (q' 4 [aK 4] .ret) (q' 11 [ao (.bin .eql (.t 7) (.k (.v false [.c (.s [102,111,114,119,97,114,100])]))),aV 10] (.cond (.t 10) (q' 4 [aK 1] .ret) .skip)))))) (q' 13 [ae 2 2,am 1,ac 104 [13,14],aV 12,ao (.ext (.t 12) 0),ao (.ext (.t 12) 1),ax (w' 5 [.i .i64,.s,.i .i64]),aS 3 5 16,aV 6] (.seq (q' 18 [am 6,ao (.not (.t 18))] (.cond (.t 19) (q' 4 [ao (.mov (.k (.v false [.c (.i .i64 (-1))])))] .ret) .skip)) (q' 20 [aG 2 5,aV 4] .ret))))) [.t 4] [(104,[],a4w)] ?_;intro hb hE;simp only [go_sem];repeat' first|apply cj'|intro hc|exact om'|fail
 all_goals simp only [a3l,pkB,fwB, *,W5,W4]
noncomputable def a3A:CT:=j6 (fun (x:c5×(List UInt8))=>b4U x.1 x.2)
@[go_sem] def c3L:=fun x0 x1 x2=>nm' (fQ' a3A rfl (⟨x0,x1⟩,x2))
def b6o (p:c5) (name:List UInt8):spZ 46 [(true,[o8 p.Decls,n7 p.Rules]),(false,[.s name])] [] (.one (false,[.i .i64 (a1b p name)])):=by
 refine sy' Tryz.func46 (q' 2 [ao (.box 2 (.t 0)),az 4 0] (q' 8 [ae 2 2,am 1,ac 104 [8,9],aV 7,ao (.ext (.t 7) 0),ao (.ext (.t 7) 1),ax (w' 5 [.i .i64,.s,.i .i64]),aS 3 5 11,aV 6] (q' 13 [aG 0 5,aV 4] .ret))) [.t 4] [(104,[],a4w)] ?_;intro hb hE;simp only [go_sem];repeat' first|apply cj'|intro hc|exact om'|fail
 all_goals (first|rfl)
noncomputable def a0T:CT:=j6 (fun (x:c5×(List UInt8))=>b6o x.1 x.2)
@[go_sem] def c5I:=fun x0 x1 x2=>nm' (fQ' a0T rfl (⟨x0,x1⟩,x2))
def b1f:OkC Tryz.prog 46 a0T:=a4k _
def b4X (p:c5) (name:List UInt8):spZ 286 [(true,[o8 p.Decls,n7 p.Rules]),(false,[.s name])] [] (.one (false,[.b (movB p name)])):=by
 refine sy' Tryz.func286 (q' 2 [ao (.box 2 (.t 0)),ab 4 false] (q' 5 [am 1,ao (.bin .eql (.t 5) (.k (.v false [.c (.s [112,97,99,107,101,116])]))),am 6,au (.ld true 2 (.t 2)) 7 false,au (.mov (.t 1)) 7 false,au (.call 46 [.t 8,.t 9]) 7 false,au (.bin .eql (.t 10) (k' 2)) 7 false,ao (.pick (.t 7) (bb true) (.t 11)),aV 4] .ret)) [.t 4] [(46,[],a0T)] ?_;intro hb hE;simp only [go_sem];repeat' first|apply cj'|intro hc|exact om'|fail
 all_goals (first|rfl)
noncomputable def a3C:CT:=j6 (fun (x:c5×(List UInt8))=>b4X x.1 x.2)
@[go_sem] def c3O:=fun x0 x1 x2=>nm' (fQ' a3C rfl (⟨x0,x1⟩,x2))
def b4V (r:c6) (hpre:r.Body.length<=8):spZ 107 [(true,[.i .i64 r.Kind,.s r.Head.Name,m0 r.Head.Args,a0W r.Body])] [] (.one (false,[c8g (q0 r)])):=by
 refine sy' Tryz.func107 (q' 1 [ao (.box 4 (.t 0)),ao (.mov (.k (.v false [.nl b1Y])))] (q' 6 [af 1 1,aE 2,ao (.bsl 2 1 [.s,.sl j4] [(0,.t 7)]),aV 3] (.seq (q' 9 [aG 3 1,aN,aK 0] (.block 0 (.loop (q' 13 [ar 12 11] (.seq (.cond (.t 13) .skip (.exit 0)) (.seq (.block 1 (q' 14 [ai 10 10 12,aE 10,ax (w' 5 [.i .i64,.s,.sl j4,.i .i64,.s,.i .i64,.s,.s,.i .i64,.s]),aS 10 5 15] (q' 16 [aG 0 5,ao (.bin .neq (.t 17) (k' 3))] (.cond (.t 18) (g' 19 [am 3,af 1 5,aE 2,ao (.bsl 2 1 [.s,.sl j4] [(0,.t 21)]),ao (.app 2 40 [.s,.sl j4] (.t 19) (.t 22)),aV 3]) .skip)))) (g' 24 [aA 12]))))))) (q' 25 [am 3,aV 2] .ret)))) [.t 2] [] ?_;intro hb hE;simp only [go_sem];repeat' first|apply cj'|intro hc|exact om'|fail
 refine lk' false [(false,3,0,100006)] [10,11] [] [] (fun i:{i:Nat // i<=r.Body.length}=>[(3,.v false [.ow 100006]),(12,slV (.i .i64 i.1))]) nl' (fun i=>[(100006,b1Y,(r.Head::((r.Body.take i.1).filter atB).map c7.Atom).map (d4.cells false false))]) (fun i=>r.Body.length - i.1) (⟨0,by simp⟩) ?_;intro S0 hS0 i;obtain ⟨i,hi⟩:=i;simp only [go_sem,hS0];repeat' first|apply cj'|intro hc|exact om'|fail
 ·have:=b1o atB c7.Atom (r.Body.take i);simp at this;omega
 ·have hp:atB (r.Body.getD i default)=true:=hc
  (refine lpK_n2 (⟨i+1,by omega⟩) _ (by simp only [go_sem];try rfl) ?_;simp only [go_sem,hS0]<;>repeat' first|apply V3|exact on'|fail)
  all_goals (rw [a8G c7.Atom default (by omega) hp]<;>rfl)
 ·have hp:atB (r.Body.getD i default)=false:=hc
  (refine lpK_n2 (⟨i+1,by omega⟩) _ (by simp only [go_sem];try rfl) ?_;simp only [go_sem,hS0]<;>repeat' first|apply V3|exact on'|fail)
  all_goals (rw [b4J c7.Atom default (by omega) hp]<;>rfl)
 ·rw [i8 (by omega),b4j];rfl
noncomputable def a3B:CT:=u2 (fun (x:c6) h=>b4V x h)
@[go_sem] def c3M:=fun x0 x1 x2 x3=>nm' (fP' a3B rfl ⟨x0,⟨x1,x2⟩,x3⟩)
def a9M:OkC Tryz.prog 107 a3B:=b3s _
def b3j (p:c5) (name:List UInt8) (hpre:p8 p=true):spZ 190 [(true,[o8 p.Decls,n7 p.Rules]),(false,[.s name])] [] (.one (false,[.i .i64 (a3l p name)])):=by
 refine sy' Tryz.func190 (q' 2 [ao (.box 2 (.t 0)),az 4 0] (.seq (q' 6 [am 1,ao (.bin .eql (.t 6) (.k (.v false [.c (.s [112,97,99,107,101,116])])))] (.cond (.t 7) (q' 4 [aK 4] .ret) .skip)) (.seq (q' 8 [am 1,ao (.bin .eql (.t 8) (.k (.v false [.c (.s [102,111,114,119,97,114,100])])))] (.cond (.t 9) (q' 4 [aK 1] .ret) .skip)) (q' 10 [ae 2 2,am 1,ac 191 [10,11],ax (w' 5 [.i .i64,.s,.i .i64]),aS 3 5 12] (.seq (q' 13 [aG 0 5,ao (.bin .eql (.t 14) (k' 0))] (.cond (.t 15) (q' 4 [ao (.mov (.k (.v false [.c (.i .i64 (-1))])))] .ret) .skip)) (q' 16 [aG 2 5,aV 4] .ret)))))) [.t 4] [(191,[],a2e)] ?_;intro hb hE;simp only [go_sem];repeat' first|apply cj'|intro hc|exact om'|fail
 ·simp only [a3l,pkB,fwB, *,W5,W4]
 ·simp only [a3l,pkB,fwB, *,W5,W4]
 all_goals rw [b8r hpre] at hc
 ·rw [q0P] at hc;simp only [a3l,pkB,fwB, *,W5,W4]
 ·rw [q2I] at hc;simp only [a3l,pkB,fwB, *,W5,W4]
noncomputable def a5Q:CT:=u2 (fun (x:c5×(List UInt8)) h=>b3j x.1 x.2 h)
@[go_sem] def c2Q:=fun x0 x1 x2=>nm' (fP' a5Q rfl (⟨x0,x1⟩,x2))
def b1I (p:c5) (name:List UInt8):spZ 192 [(true,[o8 p.Decls,n7 p.Rules]),(false,[.s name])] [] (.one (false,[.b (movB p name)])):=by
 refine sy' Tryz.func192 (q' 2 [ao (.box 2 (.t 0)),ab 4 false] (q' 5 [am 1,ao (.bin .eql (.t 5) (.k (.v false [.c (.s [112,97,99,107,101,116])]))),am 6,au (.ld true 2 (.t 2)) 7 false,au (.mov (.t 1)) 7 false,au (.call 191 [.t 8,.t 9]) 7 false,au (.fl false 0 1 (.t 10)) 7 false,au (.bin .eql (.t 11) (k' 2)) 7 false,ao (.pick (.t 7) (bb true) (.t 12)),aV 4] .ret)) [.t 4] [(191,[],a2e)] ?_;intro hb hE;simp only [go_sem];repeat' first|apply cj'|intro hc|exact om'|fail
 all_goals (first|rfl)
noncomputable def a4V:CT:=j6 (fun (x:c5×(List UInt8))=>b1I x.1 x.2)
@[go_sem] def c1Q:=fun x0 x1 x2=>nm' (fQ' a4V rfl (⟨x0,x1⟩,x2))
def b3k (r:c6) (hpre:r.Body.length<=8):spZ 189 [(true,[.i .i64 r.Kind,.s r.Head.Name,m0 r.Head.Args,a0W r.Body])] [] (.one (false,[c8g (q0 r)])):=by
 refine sy' Tryz.func189 (q' 1 [ao (.box 4 (.t 0)),ao (.mov (.k (.v false [.nl b1Y])))] (q' 5 [af 1 1,aE 2,ao (.bsl 2 1 [.s,.sl j4] [(0,.t 6)]),aV 3] (.seq (q' 8 [aG 3 1,aN,aK 0] (.block 0 (.loop (q' 12 [ar 11 10] (.seq (.cond (.t 12) .skip (.exit 0)) (.seq (.block 1 (q' 13 [am 11,aV 4] (q' 14 [aG 3 1,am 4,aI 10,aG 0 17,ao (.bin .neq (.t 19) (k' 3))] (.cond (.t 20) (g' 21 [am 3,aG 3 1,am 4,aI 10,aF 1,aE 2,ao (.bsl 2 1 [.s,.sl j4] [(0,.t 27)]),ao (.app 2 40 [.s,.sl j4] (.t 21) (.t 28)),aV 3]) .skip)))) (g' 30 [aA 11]))))))) (q' 31 [am 3,aV 2] .ret)))) [.t 2] [] ?_;intro hb hE;simp only [go_sem];repeat' first|apply cj'|intro hc|exact om'|fail
 refine lk' false [(false,3,0,100006)] [1,10] [2] [] (fun i:{i:Nat // i<=r.Body.length}=>[(3,.v false [.ow 100006]),(11,slV (.i .i64 i.1))]) nl' (fun i=>[(100006,b1Y,(r.Head::((r.Body.take i.1).filter atB).map c7.Atom).map (d4.cells false false))]) (fun i=>r.Body.length - i.1) (⟨0,by simp⟩) ?_;intro S0 hS0 i;obtain ⟨i,hi⟩:=i;simp only [go_sem,hS0];repeat' first|apply cj'|intro hc|exact om'|fail
 ·have:=b1o atB c7.Atom (r.Body.take i);simp at this;omega
 ·have hp:atB (r.Body.getD i default)=true:=hc
  (refine lpK_n2 (⟨i+1,by omega⟩) _ (by simp only [go_sem];try rfl) ?_;simp only [go_sem,hS0]<;>repeat' first|apply V3|exact on'|fail)
  all_goals (rw [a8G c7.Atom default (by omega) hp]<;>rfl)
 ·have hp:atB (r.Body.getD i default)=false:=hc
  (refine lpK_n2 (⟨i+1,by omega⟩) _ (by simp only [go_sem];try rfl) ?_;simp only [go_sem,hS0]<;>repeat' first|apply V3|exact on'|fail)
  all_goals (rw [b4J c7.Atom default (by omega) hp]<;>rfl)
 ·rw [i8 (by omega),b4j];rfl
noncomputable def a5R:CT:=u2 (fun (x:c6) h=>b3k x h)
@[go_sem] def c2R:=fun x0 x1 x2 x3=>nm' (fP' a5R rfl ⟨x0,⟨x1,x2⟩,x3⟩)
def c0x {p:c5} (h:p8 p=true) {r:c6} (hr:r∈p.Rules):r.Body.length<=8:=by
 simp only [p8,W1,q0M] at h;have:=h.2 r hr;simp only [j7,W1,W9] at this;omega
def a6Z (l:c7) (p:c5):spZ 287 [(true,[.i .i64 l.Kind,.s l.Atom.Name,m0 l.Atom.Args,.i .i64 l.Op,.s l.A.Var,.i .i64 l.A.Val.N,.s l.A.Val.S,.s l.B.Var,.i .i64 l.B.Val.N,.s l.B.Val.S]),(false,[.p [o8 p.Decls,n7 p.Rules]])] [] (.one (false,[.b (a7T p l)])):=by
 refine sy' Tryz.func287 (q' 0 [ax (o' 2 (.box 10 (.t 0))),ab 3 false] (q' 4 [aG 0 2,ao (.bin .neq (.t 5) (k' 3)),am 6,au (.ld true 2 (.t 1)) 7 true,au (.fa 1 (.t 2)) 7 true,au (.fa 0 (.t 9)) 7 true,au (.ld false 1 (.t 10)) 7 true,au (.call 286 [.t 8,.t 11]) 7 true,ao (.pick (.t 7) (.t 12) (bb false)),aV 3] .ret)) [.t 3] [(286,[],a3C)] ?_;intro hb hE;simp only [go_sem];repeat' first|apply cj'|intro hc|exact om'|fail
 all_goals (first|rfl)
noncomputable def a2L:CT:=j6 (fun (x:c7×c5)=>a6Z x.1 x.2)
@[go_sem] def b6Y:=fun x0 x1 x2 x3 x4 x5 x6 x7 x8 x9 x10 x11=>nm' (fQ' a2L rfl (⟨x0,⟨x1,x2⟩,x3,⟨x4,⟨x5,x6⟩⟩,⟨x7,⟨x8,x9⟩⟩⟩,⟨x10,x11⟩))
def b8z (l:List c7) (p:c5):spZ 241 [(false,[a0W l]),(false,[.f 287 [.p [o8 p.Decls,n7 p.Rules]]])] [] (.one (false,[.i .i64 (a3P (fun y=>a7T p y) l)])):=by
 refine sy' Tryz.func241 b6I [.t 4] [(287,[],a2L)] ?_;intro hb hE;simp only [go_sem];repeat' first|apply cj'|intro hc|exact om'|fail
 refine lq' false [0,1,7] [] [] (fun i:{i:Nat // i<=l.length/\(l.take i).any (fun y=>a7T p y)=false}=>[(8,slV (.i .i64 i.1))]) nl' nl' (fun i=>l.length - i.1) (⟨0,by simp⟩) ?_;intro S0 hS0 i;obtain ⟨i,hi,ha⟩:=i;simp only [go_sem,hS0];repeat' first|apply cj'|intro hc|exact om'|fail
 ·exact (a0g (p:=fun y=>a7T p y) (d:=default) (by omega) ha (by simpa [-List.getD_eq_getElem?_getD] using hc)).symm
 ·exact nx0 ⟨i+1,by omega,t2 (p:=fun y=>a7T p y) default (by omega) ha (by simpa [-List.getD_eq_getElem?_getD] using hc)⟩
 ·exact (y6 (by rwa [i8 (by omega)] at ha)).symm
noncomputable def a9I:CT:=j6 (fun (x:(List c7)×c5)=>b8z x.1 x.2)
@[go_sem] def c6S:=fun l x0 x1=>nm' (fQ' a9I rfl (l,⟨x0,x1⟩))
def b8w (l:List c7) (p:c5):spZ 146 [(false,[a0W l]),(false,[.f 287 [.p [o8 p.Decls,n7 p.Rules]]])] [] (.one (false,[.b (l.any (fun y=>a7T p y))])):=by
 refine sy' Tryz.func146 b6H [.t 4] [(241,[],a9I)] ?_;intro hb hE;simp only [go_sem];repeat' first|apply cj'|intro hc|exact om'|fail
 ·exact a2h _ _
noncomputable def a9F:CT:=j6 (fun (x:(List c7)×c5)=>b8w x.1 x.2)
@[go_sem] def c6P:=fun l x0 x1=>nm' (fQ' a9F rfl (l,⟨x0,x1⟩))
def a8J (p:c5) (r:c6):spZ 221 [(true,[o8 p.Decls,n7 p.Rules]),(true,[.i .i64 r.Kind,.s r.Head.Name,m0 r.Head.Args,a0W r.Body])] [] (.one (false,[.b (b1q p r)])):=by
 refine sy' Tryz.func221 (q' 2 [ao (.box 2 (.t 0)),ao (.box 4 (.t 1)),ao (.mov (bb false))] (q' 7 [aG 3 3,aV 5] (.seq (q' 9 [aG 0 3,ao (.bin .neq (.t 10) (k' 1)),am 11,au (.fa 1 (.t 3)) 12 false,au (.fa 0 (.t 13)) 12 false,au (.ld false 1 (.t 14)) 12 false,au (.bin .eql (.t 15) (.k (.v false [.c (.s [102,111,114,119,97,114,100])]))) 12 false,ao (.pick (.t 12) (bb true) (.t 16))] (.cond (.t 17) (.seq (q' 18 [am 5,aN,ao (.bin .eql (.t 19) (k' 0)),am 20,au (.mov (.t 5)) 21 false,au (.ia 10 (.t 22) (k' 0)) 21 false,au (.fa 0 (.t 23)) 21 false,au (.ld false 1 (.t 24)) 21 false,au (.bin .neq (.t 25) (k' 1)) 21 false,ao (.pick (.t 21) (bb true) (.t 26))] (.cond (.t 27) (q' 0 [ab 4 false] .ret) .skip)) (q' 28 [am 5,ao (.ia 10 (.t 28) (k' 0)),aF 1,aG 0 30,aV 6] (.seq (q' 33 [am 6,ao (.bin .neq (.t 33) (.k (.v false [.c (.s [112,97,99,107,101,116])]))),am 34,au (.fa 0 (.t 3)) 35 true,au (.ld false 1 (.t 36)) 35 true,au (.bin .eql (.t 37) (k' 1)) 35 true,au (.mov (.t 38)) 35 true,au (.ld true 2 (.t 2)) 39 false,au (.mov (.t 6)) 39 false,au (.call 286 [.t 40,.t 41]) 39 false,au (.not (.t 42)) 39 false,au (.pick (.t 39) (bb true) (.t 43)) 35 true,ao (.pick (.t 35) (.t 44) (bb false))] (.cond (.t 45) (q' 0 [ab 4 false] .ret) .skip)) (g' 46 [am 5,ao (.slc 10 (.t 46) (some (k' 1)) none none),aV 5])))) .skip)) (q' 48 [am 5,ao (.mf 287 [.t 2]),ac 146 [48,49],ao (.not (.t 50)),aV 4] .ret)))) [.t 4] [(286,[],a3C),(146,[],a9F)] ?_;intro hb hE;simp only [go_sem];repeat' first|apply cj'|intro hc|exact om'|fail
 all_goals (try simp only [a1h] at *)
 all_goals (clear hb)
 all_goals (first|(simp at hc;omega)|grind [b1q,c0v,pkB,fwB,movB])
noncomputable def a1C:CT:=j6 (fun (x:c5×c6)=>a8J x.1 x.2)
@[go_sem] def b9c:=fun x0 x1 x2 x3 x4 x5=>nm' (fQ' a1C rfl (⟨x0,x1⟩,⟨x2,⟨x3,x4⟩,x5⟩))
def a6g:OkC Tryz.prog 221 a1C:=a4k _
def b0d (a:d4) (p:c5):spZ 217 [(true,[.s a.Name,m0 a.Args]),(false,[.p [o8 p.Decls,n7 p.Rules]])] [] (.one (false,[.b (a3X p a)])):=by
 refine sy' Tryz.func217 (q' 0 [ax (o' 2 (.box 2 (.t 0))),ab 3 false] (q' 4 [ae 2 1,aG 0 2,ac 218 [4,6],ao (.bin .lss (.t 7) (k' 0)),aV 3] .ret)) [.t 3] [(218,[],a3A)] ?_;intro hb hE;simp only [go_sem];repeat' first|apply cj'|intro hc|exact om'|fail
 all_goals (first|rfl)
noncomputable def a4f:CT:=j6 (fun (x:d4×c5)=>b0d x.1 x.2)
@[go_sem] def b9Y:=fun x0 x1 x2 x3=>nm' (fQ' a4f rfl (⟨x0,x1⟩,⟨x2,x3⟩))
def b0e (a:d4) (p:c5):spZ 219 [(true,[.s a.Name,m0 a.Args]),(false,[.p [o8 p.Decls,n7 p.Rules]])] [] (.one (false,[.b (a3Y p a)])):=by
 refine sy' Tryz.func219 (q' 0 [ax (o' 2 (.box 2 (.t 0))),ab 3 false] (.seq (G' 4 [ae 2 1,aG 0 2,ac 218 [4,6],aG 1 2,aN,ao (.bin .neq (.t 7) (.t 10)),aV 3]) .ret)) [.t 3] [(218,[],a3A)] ?_;intro hb hE;simp only [go_sem];repeat' first|apply cj'|intro hc|exact om'|fail
 all_goals (first|rfl)
noncomputable def a4g:CT:=j6 (fun (x:d4×c5)=>b0e x.1 x.2)
@[go_sem] def b9Z:=fun x0 x1 x2 x3=>nm' (fQ' a4g rfl (⟨x0,x1⟩,⟨x2,x3⟩))
def b0f (a:d4):spZ 220 [(true,[.s a.Name,m0 a.Args])] [] (.one (false,[.b (b1r a)])):=by
 refine sy' Tryz.func220 (q' 0 [ax (o' 1 (.box 2 (.t 0))),ab 2 false] (q' 3 [aG 0 1,ao (.bin .eql (.t 4) (.k (.v false [.c (.s [102,111,114,119,97,114,100])]))),aV 2] .ret)) [.t 2] [] ?_;intro hb hE;simp only [go_sem];repeat' first|apply cj'|intro hc|exact om'|fail
 all_goals (first|rfl)
noncomputable def a4h:CT:=j6 (fun (x:d4)=>b0f x)
@[go_sem] def c0a:=fun x0 x1=>nm' (fQ' a4h rfl ⟨x0,x1⟩)
@[go_sem] def a8r:ACode:=q' 4 [aK 0] (.seq (q' 6 [am 0,aN,aK 0] (.block 0 (.loop (q' 9 [ar 8 7] (.seq (.cond (.t 9) .skip (.exit 0)) (.seq (.block 1 (q' 10 [am 8,aV 5] (q' 11 [aM
 [1,0,5],aI 2,aE 2,ao (.callv (.t 11) [.t 15])] (.cond (.t 16) (q' 17 [am 5,aV 4] .ret) .skip)))) (g' 18 [aA 8]))))))) (q' 4 [ao (.mov (.k (.v false [.c (.i
 .i64 (-1))])))] .ret))
def c0F (l:List d4) (p:c5):spZ 285 [(false,[a5z l]),(false,[.f 217 [.p [o8 p.Decls,n7 p.Rules]]])] [] (.one (false,[.i .i64 (a3P (fun y=>a3X p y) l)])):=by
 refine sy' Tryz.func285 a8r [.t 4] [(217,[],a4f)] ?_;intro hb hE;simp only [go_sem];repeat' first|apply cj'|intro hc|exact om'|fail
 refine lq' false [0,1,7] [] [] (fun i:{i:Nat // i<=l.length/\(l.take i).any (fun y=>a3X p y)=false}=>[(8,slV (.i .i64 i.1))]) nl' nl' (fun i=>l.length - i.1) (⟨0,by simp⟩) ?_;intro S0 hS0 i;obtain ⟨i,hi,ha⟩:=i;simp only [go_sem,hS0];repeat' first|apply cj'|intro hc|exact om'|fail
 ·exact (a0g (p:=fun y=>a3X p y) (d:=default) (by omega) ha (by simpa [-List.getD_eq_getElem?_getD] using hc)).symm
 ·exact nx0 ⟨i+1,by omega,t2 (p:=fun y=>a3X p y) default (by omega) ha (by simpa [-List.getD_eq_getElem?_getD] using hc)⟩
 ·exact (y6 (by rwa [i8 (by omega)] at ha)).symm
noncomputable def b2e:CT:=j6 (fun (x:(List d4)×c5)=>c0F x.1 x.2)
@[go_sem] def c7I:=fun l x0 x1=>nm' (fQ' b2e rfl (l,⟨x0,x1⟩))
@[go_sem] def a8q:ACode:=q' 0 [ab 4 false] (q' 5 [aM [0,1],ac 285 [5,6],ao (.bin .geq (.t 7) (k' 0)),aV 4] .ret)
def c0C (l:List d4) (p:c5):spZ 216 [(false,[a5z l]),(false,[.f 217 [.p [o8 p.Decls,n7 p.Rules]]])] [] (.one (false,[.b (l.any (fun y=>a3X p y))])):=by
 refine sy' Tryz.func216 a8q [.t 4] [(285,[],b2e)] ?_;intro hb hE;simp only [go_sem];repeat' first|apply cj'|intro hc|exact om'|fail
 ·exact a2h _ _
noncomputable def a6y:CT:=j6 (fun (x:(List d4)×c5)=>c0C x.1 x.2)
@[go_sem] def b4p:=fun l x0 x1=>nm' (fQ' a6y rfl (l,⟨x0,x1⟩))
def b4q:OkC Tryz.prog 216 a6y:=a4k _
def c0G (l:List d4) (p:c5):spZ 285 [(false,[a5z l]),(false,[.f 219 [.p [o8 p.Decls,n7 p.Rules]]])] [] (.one (false,[.i .i64 (a3P (fun y=>a3Y p y) l)])):=by
 refine sy' Tryz.func285 a8r [.t 4] [(219,[],a4g)] ?_;intro hb hE;simp only [go_sem];repeat' first|apply cj'|intro hc|exact om'|fail
 refine lq' false [0,1,7] [] [] (fun i:{i:Nat // i<=l.length/\(l.take i).any (fun y=>a3Y p y)=false}=>[(8,slV (.i .i64 i.1))]) nl' nl' (fun i=>l.length - i.1) (⟨0,by simp⟩) ?_;intro S0 hS0 i;obtain ⟨i,hi,ha⟩:=i;simp only [go_sem,hS0];repeat' first|apply cj'|intro hc|exact om'|fail
 ·exact (a0g (p:=fun y=>a3Y p y) (d:=default) (by omega) ha (by simpa [-List.getD_eq_getElem?_getD] using hc)).symm
 ·exact nx0 ⟨i+1,by omega,t2 (p:=fun y=>a3Y p y) default (by omega) ha (by simpa [-List.getD_eq_getElem?_getD] using hc)⟩
 ·exact (y6 (by rwa [i8 (by omega)] at ha)).symm
noncomputable def b2f:CT:=j6 (fun (x:(List d4)×c5)=>c0G x.1 x.2)
@[go_sem] def c7J:=fun l x0 x1=>nm' (fQ' b2f rfl (l,⟨x0,x1⟩))
def c0D (l:List d4) (p:c5):spZ 216 [(false,[a5z l]),(false,[.f 219 [.p [o8 p.Decls,n7 p.Rules]]])] [] (.one (false,[.b (l.any (fun y=>a3Y p y))])):=by
 refine sy' Tryz.func216 a8q [.t 4] [(285,[],b2f)] ?_;intro hb hE;simp only [go_sem];repeat' first|apply cj'|intro hc|exact om'|fail
 ·exact a2h _ _
noncomputable def a6z:CT:=j6 (fun (x:(List d4)×c5)=>c0D x.1 x.2)
@[go_sem] def b4r:=fun l x0 x1=>nm' (fQ' a6z rfl (l,⟨x0,x1⟩))
def b4s:OkC Tryz.prog 216 a6z:=a4k _
def c0H (l:List d4):spZ 285 [(false,[a5z l]),(false,[.f 220 []])] [] (.one (false,[.i .i64 (a3P (fun y=>b1r y) l)])):=by
 refine sy' Tryz.func285 a8r [.t 4] [(220,[],a4h)] ?_;intro hb hE;simp only [go_sem];repeat' first|apply cj'|intro hc|exact om'|fail
 refine lq' false [0,1,7] [] [] (fun i:{i:Nat // i<=l.length/\(l.take i).any (fun y=>b1r y)=false}=>[(8,slV (.i .i64 i.1))]) nl' nl' (fun i=>l.length - i.1) (⟨0,by simp⟩) ?_;intro S0 hS0 i;obtain ⟨i,hi,ha⟩:=i;simp only [go_sem,hS0];repeat' first|apply cj'|intro hc|exact om'|fail
 ·exact (a0g (p:=fun y=>b1r y) (d:=default) (by omega) ha (by simpa [-List.getD_eq_getElem?_getD] using hc)).symm
 ·exact nx0 ⟨i+1,by omega,t2 (p:=fun y=>b1r y) default (by omega) ha (by simpa [-List.getD_eq_getElem?_getD] using hc)⟩
 ·exact (y6 (by rwa [i8 (by omega)] at ha)).symm
noncomputable def b2g:CT:=j6 (fun (x:(List d4))=>c0H x)
@[go_sem] def c7K:=fun l=>nm' (fQ' b2g rfl l)
def c0E (l:List d4):spZ 216 [(false,[a5z l]),(false,[.f 220 []])] [] (.one (false,[.b (l.any (fun y=>b1r y))])):=by
 refine sy' Tryz.func216 a8q [.t 4] [(285,[],b2g)] ?_;intro hb hE;simp only [go_sem];repeat' first|apply cj'|intro hc|exact om'|fail
 ·exact a2h _ _
noncomputable def a6A:CT:=j6 (fun (x:(List d4))=>c0E x)
@[go_sem] def b4t:=fun l=>nm' (fQ' a6A rfl l)
def b4u:OkC Tryz.prog 216 a6A:=a4k _
noncomputable def a0i:CT:=(ctO a6y (ctO a6z a6A))
@[go_sem] def b9m (l:List d4) (x0:List c9) (x1:List c6):a0i [(false,[a5z l]),(false,[.f 217 [.p [o8 x0,n7 x1]]])]=some (True,[],.one (false,[.b (l.any (fun y=>a3X (c5.mk x0 x1) y))])):=c0k (b4p l x0 x1)
@[go_sem] def b9n (l:List d4) (x0:List c9) (x1:List c6):a0i [(false,[a5z l]),(false,[.f 219 [.p [o8 x0,n7 x1]]])]=some (True,[],.one (false,[.b (l.any (fun y=>a3Y (c5.mk x0 x1) y))])):=(b4B (b1m (fun x h=>by simp only [V2,W3,C.i.injEq,C.s.injEq,C.b.injEq,C.sl.injEq,C.p.injEq,C.mp.injEq,C.f.injEq,reduceCtorEq,q1N,Nat.reduceEqDiff,Bool.true_eq_false,q0Q,q0F,false_and,and_false] at h))).trans (c0k (b4r l x0 x1))
@[go_sem] def b9o (l:List d4):a0i [(false,[a5z l]),(false,[.f 220 []])]=some (True,[],.one (false,[.b (l.any (fun y=>b1r y))])):=(b4B (b1m (fun x h=>by simp only [V2,W3,C.i.injEq,C.s.injEq,C.b.injEq,C.sl.injEq,C.p.injEq,C.mp.injEq,C.f.injEq,reduceCtorEq,q1N,Nat.reduceEqDiff,Bool.true_eq_false,q0Q,q0F,false_and,and_false] at h))).trans ((b4B (b1m (fun x h=>by simp only [V2,W3,C.i.injEq,C.s.injEq,C.b.injEq,C.sl.injEq,C.p.injEq,C.mp.injEq,C.f.injEq,reduceCtorEq,q1N,Nat.reduceEqDiff,Bool.true_eq_false,q0Q,q0F,false_and,and_false] at h))).trans (b4t l))
def a6h:OkC Tryz.prog 216 a0i:=(c7S b4q (c7S b4s b4u))
def b2Z (p:c5) (r:c6) (hpre:r.Body.length<=8):spZ 117 [(true,[o8 p.Decls,n7 p.Rules]),(true,[.i .i64 r.Kind,.s r.Head.Name,m0 r.Head.Args,a0W r.Body])] [] (.one (false,[.i .i64 (u4 p r)])):=by
 refine sy' Tryz.func117 (q' 2 [ao (.box 2 (.t 0)),ao (.box 4 (.t 1)),aK 0] (q' 8 [ae 4 3,ac 107 [8],aV 5] (.seq (q' 10 [am 5,ao (.mf 217 [.t 2]),ac 216 [10,11]] (.cond (.t 12) (q' 4 [aK 3] .ret) .skip)) (.seq (q' 13 [am 5,ao (.mf 219 [.t 2]),ac 216 [13,14]] (.cond (.t 15) (q' 4 [aK 4] .ret) .skip)) (q' 16 [ae 2 2,af 1 3,aG 0 17,ac 46 [16,19],aV 6] (q' 21 [am 6,ao (.bin .eql (.t 21) (k' 3)),am 22,au (.fa 1 (.t 3)) 23 false,au (.fa 0 (.t 24)) 23 false,au (.ld false 1 (.t 25)) 23 false,au (.bin .eql (.t 26) (.k (.v false [.c (.s [102,111,114,119,97,114,100])]))) 23 false,ao (.pick (.t 23) (bb true) (.t 27)),aV 7] (.seq (.block 0 (q' 30 [aG 0 3,ao (.bin .eql (.t 31) (k' 1)),am 32,au (.mov (.t 7)) 33 true,au (.not (.t 34)) 33 true,ao (.pick (.t 33) (.t 35) (bb false)),am 36,au (.fa 0 (.t 3)) 37 false,au (.ld false 1 (.t 38)) 37 false,au (.bin .neq (.t 39) (k' 1)) 37 false,au (.mov (.t 40)) 37 false,au (.mov (.t 6)) 41 true,au (.bin .neq (.t 42) (k' 1)) 41 true,au (.pick (.t 41) (.t 43) (bb false)) 37 false,ao (.pick (.t 37) (bb true) (.t 44)),aV 29] (.cond (.t 29) (q' 4 [aK 5] .ret) (q' 47 [am 5,ao (.slc 2 (.t 47) (some (k' 1)) none none),ao (.call 216 [.t 48,.k (.v false [.c (.f 220 [])])]),aV 46] (.cond (.t 46) (q' 4 [aK 6] .ret) (q' 51 [ae 2 2,ae 4 3,ac 221 [51,52],ao (.not (.t 53)),aV 50] (.cond (.t 50) (q' 4 [aK 7] .ret) .skip))))))) (q' 4 [aK 0] .ret)))))))) [.t 4] [(107,[],a3B),(216,[],a0i),(46,[],a0T),(221,[],a1C)] ?_ (hΓ:=⟨a9M,a6h,b1f,a6g,trivial⟩);intro hb hE;simp only [go_sem];repeat' first|apply cj'|intro hc|exact om'|fail
 all_goals (try simp only [a1h] at *)
 all_goals (clear hb)
 all_goals (first|(have:=b2c r;omega)|grind [u4,a3n,fwB])
noncomputable def a5L:CT:=u2 (fun (x:c5×c6) h=>b2Z x.1 x.2 h)
@[go_sem] def c2G:=fun x0 x1 x2 x3 x4 x5=>nm' (fP' a5L rfl (⟨x0,x1⟩,⟨x2,⟨x3,x4⟩,x5⟩))
def a9z {α:Type} {q:α->Bool} {l:List α} {i:Nat} (d:α) (h:i < l.length) (hp:q (l.getD i d)=true):l.any q=true:=by
 rw [q3A];exact ⟨l.getD i d,by rw [v8 d h];exact q0U h,hp⟩
def c5x {α:Type} {q:α->Bool} {l:List α} {i k:Nat} (d:α) (hk:k<=i) (h:i < l.length) (ha:((l.take i).drop k).any q=false) (hp:q (l.getD i d)=false):((l.take (i+1)).drop k).any q=false:=by
 rw [i9 d h,List.drop_append_of_le_length (by rw [q0L];omega),q2J,ha];simp only [q2V,q4W,hp,q3O]
def c7w {α:Type} {q:α->Bool} {l:List α} {i k:Nat} (d:α) (hk:k<=i) (h:i < l.length) (hp:q (l.getD i d)=true):(l.drop k).any q=true:=by
 rw [q3A];refine ⟨l.getD i d, ?_,hp⟩;rw [v8 d h,List.mem_drop_iff_getElem];exact ⟨i - k,by omega,by congr 1;omega⟩
def b5s (p:c5) (r:c6) (hpre:r.Body.length<=8/\p8 p=true):spZ 99 [(true,[o8 p.Decls,n7 p.Rules]),(true,[.i .i64 r.Kind,.s r.Head.Name,m0 r.Head.Args,a0W r.Body])] [] (.one (false,[.i .i64 (u4 p r)])):=by
 refine sy' Tryz.func99 (q' 2 [ao (.box 2 (.t 0)),ao (.box 4 (.t 1)),aK 0] (q' 15 [ae 4 3,ac 189 [15],aV 5] (.seq (q' 17 [am 5,aN,aK 0] (.block 0 (.loop (q' 20 [ar 19 18] (.seq (.cond (.t 20) .skip (.exit 0)) (.seq (.block 1 (q' 21 [ai 2 17 19,aE 2,ax (w' 7 [.s,.sl j4]),aS 2 7 22] (q' 23 [ae 2 2,aG 0 7,ac 190 [23,25],ao (.bin .lss (.t 26) (k' 0))] (.cond (.t 27) (q' 4 [aK 3] .ret) .skip)))) (g' 28 [aA 19]))))))) (.seq (q' 29 [am 5,aN,aK 0] (.block 2 (.loop (q' 32 [ar 31 30] (.seq (.cond (.t 32) .skip (.exit 2)) (.seq (.block 3 (q' 33 [ai 2 29 31,aE 2,ax (w' 9 [.s,.sl j4]),aS 2 9 34] (.seq (G' 35 [ae 2 2,aG 0 9,ac 190 [35,37],aG 1 9,aN,ao (.bin .neq (.t 38) (.t 41))]) (.cond (.t 42) (q' 4 [aK 4] .ret) .skip)))) (g' 43 [aA 31]))))))) (q' 44 [ae 2 2,af 1 3,aG 0 45,ac 191 [44,47],ao (.fl false 0 1 (.t 48)),aV 10] (.seq (q' 50 [aG 0 3,ao (.bin .eql (.t 51) (k' 1)),am 52,au (.mov (.t 10)) 53 true,au (.bin .neq (.t 54) (k' 3)) 53 true,ao (.pick (.t 53) (.t 55) (bb false)),am 56,au (.fa 1 (.t 3)) 57 true,au (.fa 0 (.t 58)) 57 true,au (.ld false 1 (.t 59)) 57 true,au (.bin .neq (.t 60) (.k (.v false [.c (.s [102,111,114,119,97,114,100])]))) 57 true,ao (.pick (.t 57) (.t 61) (bb false)),am 62,au (.fa 0 (.t 3)) 63 false,au (.ld false 1 (.t 64)) 63 false,au (.bin .neq (.t 65) (k' 1)) 63 false,au (.mov (.t 66)) 63 false,au (.mov (.t 10)) 67 true,au (.bin .neq (.t 68) (k' 1)) 67 true,au (.pick (.t 67) (.t 69) (bb false)) 63 false,ao (.pick (.t 63) (bb true) (.t 70))] (.cond (.t 71) (q' 4 [aK 5] .ret) .skip)) (.seq (q' 72 [am 5,ao (.slc 2 (.t 72) (some (k' 1)) none none),aN,aK 0] (.block 4 (.loop (q' 76 [ar 75 74] (.seq (.cond (.t 76) .skip (.exit 4)) (.seq (.block 5 (q' 77 [ai 2 73 75,aE 2,ax (w' 12 [.s,.sl j4]),aS 2 12 78] (q' 79 [aG 0 12,ao (.bin .eql (.t 80) (.k (.v false [.c (.s [102,111,114,119,97, 114,100])])))] (.cond (.t 81) (q' 4 [aK 6] .ret) .skip)))) (g' 82 [aA 75]))))))) (q' 13 [aK 0] (.seq (q' 83 [aG 0 3,ao (.bin .neq (.t 84) (k' 1)),am 85,au (.fa 1 (.t 3)) 86 false,au (.fa 0 (.t 87)) 86 false,au (.ld false 1 (.t 88)) 86 false,au (.bin .eql (.t 89) (.k (.v false [.c (.s [102,111,114,119,97, 114,100])]))) 86 false,ao (.pick (.t 86) (bb true) (.t 90))] (.cond (.t 91) (.seq (.seq (G' 92 [aG 3 3,aN,ao (.bin .eql (.t 94) (k' 0)),am 95,au (.fa 3 (.t 3)) 96 false,au (.ld false 1 (.t 97)) 96 false,au (.ia 10 (.t 98) (k' 0)) 96 false,au (.fa 0 (.t 99)) 96 false,au (.ld false 1 (.t 100)) 96 false,au (.bin .neq (.t 101) (k' 1)) 96 false,ao (.pick (.t 96) (bb true) (.t 102)),am 103,au (.ld true 2 (.t 2)) 104 false,au (.fa 3 (.t 3)) 104 false,au (.ld false 1 (.t 106)) 104 false,au (.ia 10 (.t 107) (k' 0)) 104 false,au (.fa 1 (.t 108)) 104 false,au (.fa 0 (.t 109)) 104 false,au (.ld false 1 (.t 110)) 104 false,au (.call 192 [.t 105,.t 111]) 104 false,au (.not (.t 112)) 104 false,ao (.pick (.t 104) (bb true) (.t 113))]) (.cond (.t 114) (q' 4 [aK 7] .ret) .skip)) (.seq (q' 115 [aG 0 3,ao (.bin .eql (.t 116) (k' 1)),am 117,au (.fa 3 (.t 3)) 118 true,au (.ld false 1 (.t 119)) 118 true,au (.ia 10 (.t 120) (k' 0)) 118 true,au (.fa 1 (.t 121)) 118 true,au (.fa 0 (.t 122)) 118 true,au (.ld false 1 (.t 123)) 118 true,au (.bin .neq (.t 124) (.k (.v false [.c (.s [112,97,99,107,101, 116])]))) 118 true,ao (.pick (.t 118) (.t 125) (bb false))] (.cond (.t 126) (q' 4 [aK 7] .ret) .skip)) (g' 13 [aK 1]))) .skip)) (.seq (q' 127 [am 13,aV 14] (.block 6 (.loop (.seq (q' 128 [am 14,aG 3 3,aN,ar 128 131] (.cond (.t 132) .skip (.exit 6))) (.seq (.block 7 (.seq (G' 135 [aG 3 3,am 14,aI 10,aG 0 138,ao (.bin .neq (.t 140) (k' 3)),am 141,au (.ld true 2 (.t 2)) 142 true,au (.fa 3 (.t 3)) 142 true,au (.ld false 1 (.t 144)) 142 true,au (.mov (.t 14)) 142 true,au (.ia 10 (.t 145) (.t 146)) 142 true,au (.fa 1 (.t 147)) 142 true,au (.fa 0 (.t 148)) 142 true,au (.ld false 1 (.t 149)) 142 true,au (.call 192 [.t 143,.t 150]) 142 true,ao (.pick (.t 142) (.t 151) (bb false))]) (.cond (.t 152) (q' 4 [aK 7] .ret) .skip))) (g' 133 [aB 14])))))) (q' 4 [aK 0] .ret))))))))))) [.t 4] [(189,[],a5R),(190,[],a5Q),(191,[],a2e),(192,[],a4V)] ?_;intro hb hE;obtain ⟨hp8,hpB⟩:=hpre;have hA:=c2w r;have hA1:=b2c r;simp only [go_sem,a1h];repeat' first|apply cj'|intro hc|exact om'|fail
 refine lq' false [2,3,5,17,18] [4,6] [2048] (fun i:{i:Nat // i<=(q0 r).length/\((q0 r).take i).any (a3X p)=false}=>[(19,slV (.i .i64 i.1))]) nl' nl' (fun i=>(q0 r).length - i.1) (⟨0,by simp⟩) ?_;intro S0 hS0 i;obtain ⟨i,hi,ha⟩:=i;simp only [go_sem,a1h,hS0];repeat' first|apply cj'|intro hc|exact om'|fail
 ·rw [u4,a9z (q:=a3X p) default (by omega) (W8 hc)];rfl
 ·(refine lpK_n2 (⟨i+1,by omega,t2 (p:=a3X p) default (by omega) ha (V1 hc)⟩) _ rfl ?_;simp only [go_sem,a1h,hS0]<;>repeat' first|apply V3|exact on'|fail)
 rw [i8 (by omega)] at ha;clear hc hi;refine lq' false [2,3,5,29,30] [4,6] [2048] (fun i:{i:Nat // i<=(q0 r).length/\((q0 r).take i).any (a3Y p)=false}=>[(31,slV (.i .i64 i.1))]) nl' nl' (fun i=>(q0 r).length - i.1) (⟨0,by simp⟩) ?_;intro S1 hS1 i;obtain ⟨i,hi,hb1⟩:=i;simp only [go_sem,a1h,hS0,hS1];repeat' first|apply cj'|intro hc|exact om'|fail
 ·rw [u4,ha,a9z (q:=a3Y p) default (by omega) hc];rfl
 ·(refine lpK_n2 (⟨i+1,by omega,t2 (p:=a3Y p) default (by omega) hb1 hc⟩) _ rfl ?_;simp only [go_sem,a1h,hS0,hS1]<;>repeat' first|apply V3|exact on'|fail)
 ·rw [i8 (by omega)] at hb1;clear hb hS0 hS1
  grind [u4,a3n,a1b,fwB]
 rw [i8 (by omega)] at hb1;have hk:a3n p r=false:=by
  clear hb hS0 hS1
  grind [a3n,a1b,fwB]
 clear hc hi;refine lq' false [2,3,73,74] [4,6] [9344] (fun i:{i:Nat // i<=((q0 r).drop 1).length/\(((q0 r).drop 1).take i).any b1r=false}=>[(75,slV (.i .i64 i.1))]) nl' nl' (fun i=>((q0 r).drop 1).length - i.1) (⟨0,by simp⟩) ?_;intro S2 hS2 i;obtain ⟨i,hi,hf⟩:=i;have hD:((q0 r).drop 1).length<=8:=by rw [q1X];omega
 simp only [go_sem,a1h,hS0,hS1,hS2];repeat' first|apply cj'|intro hc|exact om'|fail
 ·rw [u4,ha,hb1,hk,a9z (q:=b1r) default (by omega) hc];rfl
 ·(refine lpK_n2 (⟨i+1,by omega,t2 (p:=b1r) default (by omega) hf hc⟩) _ rfl ?_;simp only [go_sem,a1h,hS0,hS1,hS2]<;>repeat' first|apply V3|exact on'|fail)
 all_goals (rw [i8 (by omega)] at hf)
 ·clear hb hS0 hS1 hS2;grind
 ·clear hb hS0 hS1 hS2;grind
 ·clear hb hS0 hS1 hS2;grind [u4,b1q,c0v,pkB,fwB]
 ·clear hb hS0 hS1 hS2;grind
 ·clear hb hS0 hS1 hS2;grind [u4,b1q,c0v,pkB,fwB]
 ·have hg:b1q p r=!(r.Body.drop 1).any (a7T p):=by
   clear hb hS0 hS1 hS2;grind [b1q,c0v,pkB,fwB]
  have h1:1<=r.Body.length:=by
   clear hb hS0 hS1 hS2;grind
  clear hc;refine lq' false [2,3] [4,6] [] (fun i:{i:Nat // 1<=i/\i<=r.Body.length/\((r.Body.take i).drop 1).any (a7T p)=false}=>[(14,slV (.i .i64 i.1))]) nl' nl' (fun i=>r.Body.length - i.1) (⟨1,by omega,by omega,by cases r.Body<;>rfl⟩) ?_;intro S3 hS3 i;obtain ⟨i,h1i,hi,hm⟩:=i;simp only [go_sem,a1h,hS0,hS1,hS2,hS3];repeat' first|apply cj'|intro hc|exact om'|fail
  ·have:b1q p r=false:=by rw [hg,c7w (q:=a7T p) (i:=i) default (by omega) (by omega) (Bool.and_eq_true_iff.2 hc)];rfl
   rw [u4,ha,hb1,hk,hf,this];rfl
  ·(refine lpK_n2 (⟨i+1,by omega,by omega,c5x (q:=a7T p) default (by omega) (by omega) hm hc⟩) _ rfl ?_;simp only [go_sem,a1h,hS0,hS1,hS2,hS3]<;>repeat' first|apply V3|exact on'|fail)
  ·rw [i8 (by omega)] at hm;rw [hm] at hg;rw [u4,ha,hb1,hk,hf,hg];rfl
 ·have hg:b1q p r=!r.Body.any (a7T p):=by
   clear hb hS0 hS1 hS2;grind [b1q,fwB]
  clear hc;refine lq' false [2,3] [4,6] [] (fun i:{i:Nat // i<=r.Body.length/\(r.Body.take i).any (a7T p)=false}=>[(14,slV (.i .i64 i.1))]) nl' nl' (fun i=>r.Body.length - i.1) (⟨0,by omega,by simp⟩) ?_;intro S3 hS3 i;obtain ⟨i,hi,hm⟩:=i;simp only [go_sem,a1h,hS0,hS1,hS2,hS3];repeat' first|apply cj'|intro hc|exact om'|fail
  ·have:b1q p r=false:=by rw [hg,a9z (q:=a7T p) (i:=i) default (by omega) (Bool.and_eq_true_iff.2 hc)];rfl
   rw [u4,ha,hb1,hk,hf,this];rfl
  ·(refine lpK_n2 (⟨i+1,by omega,t2 (p:=a7T p) default (by omega) hm hc⟩) _ rfl ?_;simp only [go_sem,a1h,hS0,hS1,hS2,hS3]<;>repeat' first|apply V3|exact on'|fail)
  ·rw [i8 (by omega)] at hm;rw [hm] at hg;rw [u4,ha,hb1,hk,hf,hg];rfl
noncomputable def a6T:CT:=u2 (fun (x:c5×c6) h=>b5s x.1 x.2 h)
@[go_sem] def c4j:=fun x0 x1 x2 x3 x4 x5=>nm' (fP' a6T rfl (⟨x0,x1⟩,⟨x2,⟨x3,x4⟩,x5⟩))
def b2l (p:c5) (r:c6):0<=u4 p r:=by
 unfold u4;cases (q0 r).any (a3X p)<;>cases (q0 r).any (a3Y p)<;>cases a3n p r<;>cases ((q0 r).drop 1).any b1r<;>cases b1q p r<;>decide
def a2I {p:c5} (h:p8 p=false):i6 p=(1,0):=by simp [i6,h]
def a1A {p:c5} (h:p8 p=true) {i:Nat} (hi:i < p.Decls.length) (ha:∀ j,j < i->s8 p j=false) (hq:s8 p i=true):i6 p=(2,(i:Int)):=by
 rw [i6,h,a6Y ha hq hi,if_pos hi];rfl
def a2Z {p:c5} (h:p8 p=true) (hd:∀ j,j < p.Decls.length->s8 p j=false) {i:Nat} (hi:i < p.Rules.length) (ha:∀ j,j < i->y9 p j=false) (hq:y9 p i=true):i6 p=(u4 p (p.Rules.getD i default),(i:Int)):=by
 rw [i6,h,a4l hd,if_neg (by omega),a6Y ha hq hi,if_pos hi];rfl
def a8h {p:c5} (h:p8 p=true) (hd:∀ j,j < p.Decls.length->s8 p j=false) (ha:∀ j,j < p.Rules.length->y9 p j=false):i6 p=(0,0):=by
 rw [i6,h,a4l hd,if_neg (by omega),a4l ha,if_neg (by omega)];rfl
def b0n {q:Nat->Bool} {i:Nat} (h:∀ j,j < i->q j=false) (hi:q i=false):∀ j,j < i+1->q j=false:=by
 intro j hj;rcases q3Y.1 hj with h1|rfl
 ·exact h j h1
 ·exact hi
def c1f {p:c5} (h:p8 p=true) {i:Nat} (hi:i < p.Rules.length):(p.Rules.getD i default).Body.length<=8:=by
 rw [v8 default hi];exact c0x h (q0U hi)
def a7O (y:c9) (d:c9):spZ 116 [(true,[.i .i64 y.Kind,.s y.Name,.i .i64 y.Arity]),(false,[.p [.i .i64 d.Kind,.s d.Name,.i .i64 d.Arity]])] [] (.one (false,[.b (y.Name==d.Name)])):=by
 refine sy' Tryz.func116 (q' 0 [ax (o' 2 (.box 3 (.t 0))),ab 3 false] (q' 4 [aG 1 2,aG 1 1,ao (.bin .eql (.t 5) (.t 7)),aV 3] .ret)) [.t 3] [] ?_;intro hb hE;simp only [go_sem];repeat' first|apply cj'|intro hc|exact om'|fail
 all_goals (first|rfl)
noncomputable def a3d:CT:=j6 (fun (x:c9×c9)=>a7O x.1 x.2)
@[go_sem] def b8g:=fun x0 x1 x2 x3 x4 x5=>nm' (fQ' a3d rfl (⟨x0,x1,x2⟩,⟨x3,x4,x5⟩))
def b8x (l:List c9) (d:c9):spZ 215 [(false,[o8 l]),(false,[.f 116 [.p [.i .i64 d.Kind,.s d.Name,.i .i64 d.Arity]]])] [] (.one (false,[.i .i64 (a3P (fun y:c9=>y.Name==d.Name) l)])):=by
 refine sy' Tryz.func215 (q' 4 [aK 0] (.seq (q' 6 [am 0,aN,aK 0] (.block 0 (.loop (q' 9 [ar 8 7] (.seq (.cond (.t 9) .skip (.exit 0)) (.seq (.block 1 (q' 10 [am 8,aV 5] (q' 11 [aM [1,0,5],aI 3,aE 3,ao (.callv (.t 11) [.t 15])] (.cond (.t 16) (q' 17 [am 5,aV 4] .ret) .skip)))) (g' 18 [aA 8]))))))) (q' 4 [ao (.mov (.k (.v false [.c (.i .i64 (-1))])))] .ret))) [.t 4] [(116,[],a3d)] ?_;intro hb hE;simp only [go_sem];repeat' first|apply cj'|intro hc|exact om'|fail
 refine lq' false [0,1,7] [] [] (fun i:{i:Nat // i<=l.length/\(l.take i).any (fun y:c9=>y.Name==d.Name)=false}=>[(8,slV (.i .i64 i.1))]) nl' nl' (fun i=>l.length - i.1) (⟨0,by simp⟩) ?_;intro S0 hS0 i;obtain ⟨i,hi,ha⟩:=i;simp only [go_sem,hS0];repeat' first|apply cj'|intro hc|exact om'|fail
 ·exact (a0g (p:=fun y:c9=>y.Name==d.Name) (d:=default) (by omega) ha (by simpa [-List.getD_eq_getElem?_getD] using hc)).symm
 ·exact nx0 ⟨i+1,by omega,t2 (p:=fun y:c9=>y.Name==d.Name) default (by omega) ha (by simpa [-List.getD_eq_getElem?_getD] using hc)⟩
 ·exact (y6 (by rwa [i8 (by omega)] at ha)).symm
noncomputable def a9G:CT:=j6 (fun (x:(List c9)×c9)=>b8x x.1 x.2)
@[go_sem] def c6Q:=fun l x0 x1 x2=>nm' (fQ' a9G rfl (l,⟨x0,x1,x2⟩))
def b8v (l:List c9) (d:c9):spZ 115 [(false,[o8 l]),(false,[.f 116 [.p [.i .i64 d.Kind,.s d.Name,.i .i64 d.Arity]]])] [] (.one (false,[.b (l.any (fun y:c9=>y.Name==d.Name))])):=by
 refine sy' Tryz.func115 (q' 0 [ab 4 false] (q' 5 [aM [0,1],ac 215 [5,6],ao (.bin .geq (.t 7) (k' 0)),aV 4] .ret)) [.t 4] [(215,[],a9G)] ?_;intro hb hE;simp only [go_sem];repeat' first|apply cj'|intro hc|exact om'|fail
 ·exact a2h _ _
noncomputable def a9E:CT:=j6 (fun (x:(List c9)×c9)=>b8v x.1 x.2)
@[go_sem] def c6O:=fun l x0 x1 x2=>nm' (fQ' a9E rfl (l,⟨x0,x1,x2⟩))
def b0g (p:c5):spZ 36 [(true,[o8 p.Decls,n7 p.Rules])] [] (.tup [(false,[.i .i64 ((i6 p).1)]),(false,[.i .i64 ((i6 p).2)])]):=by
 refine sy' Tryz.func36 (q' 1 [ao (.box 2 (.t 0)),aK 0,aK 0] (.seq (q' 9 [ae 2 1,ac 59 [9],ao (.not (.t 10))] (.cond (.t 11) (q' 2 [aK 1,aK 0] .ret) .skip)) (.seq (q' 12 [aG 0 1,aN,aK 0] (.block 0 (.loop (q' 16 [ar 15 14] (.seq (.cond (.t 16) .skip (.exit 0)) (.seq (.block 1 (q' 17 [am 15,aV 4] (q' 18 [aG 0 1,am 4,aI 3,aG 1 21,aV 5] (.seq (q' 24 [am 5,ao (.bin .eql (.t 24) (.k (.v false [.c (.s [112,97,99,107,101,116])]))),am 25,au (.mov (.t 5)) 26 false,au (.bin .eql (.t 27) (.k (.v false [.c (.s [102,111,114,119,97,114,100])]))) 26 false,ao (.pick (.t 26) (bb true) (.t 28))] (.cond (.t 29) (q' 30 [am 4,az 2 2,aV 3] .ret) .skip)) (q' 6 [aK 0] (.block 2 (.loop (.seq (q' 31 [aM [6,4],ar 31 32] (.cond (.t 33) .skip (.exit 2))) (.seq (.block 3 (q' 36 [aG 0 1,am 6,aI 3,aG 1 39,am 5,ao (.bin .eql (.t 41) (.t 42))] (.cond (.t 43) (q' 44 [am 4,az 2 2,aV 3] .ret) .skip))) (g' 34 [aB 6])))))))))) (g' 45 [aA 15]))))))) (.seq (q' 46 [aG 1 1,aN,aK 0] (.block 4 (.loop (q' 50 [ar 49 48] (.seq (.cond (.t 50) .skip (.exit 4)) (.seq (.block 5 (q' 51 [am 49,aV 7] (.seq (G' 52 [ae 2 1,aG 1 1,am 7,aI 4,aE 4,ac 99 [52,57],aV 8]) (q' 59 [am 8,ao (.bin .gtr (.t 59) (k' 0))] (.cond (.t 60) (q' 61 [aM [8,7],av 2 61,aV 3] .ret) .skip))))) (g' 63 [aA 49]))))))) (q' 2 [aK 0,aK 0] .ret))))) [.t 2,.t 3] [(59,[],a2v),(99,[],a6T)] ?_;intro hb hE;simp only [go_sem];repeat' first|apply cj'|intro hc|exact om'|fail
 ·rw [a2I hc];exact ⟨rfl,rfl⟩
 have hB:p8 p=true:=hc;clear hc;refine lq' false [1,14] [2] [] (fun i:{i:Nat // i<=p.Decls.length/\∀ j,j < i->s8 p j=false}=>[(15,slV (.i .i64 i.1))]) nl' nl' (fun i=>p.Decls.length - i.1) (⟨0,by omega,by intro j h;omega⟩) ?_;intro S0 hS0 i;obtain ⟨n,hn,ha⟩:=i;simp only [go_sem,hS0];repeat' first|apply cj'|intro hc|exact om'|fail
 ·have hq:s8 p n=true:=by rcases hc with hc|hc<;>(simp only [s8,pkB,fwB,hc,q4X,q3M])
  rw [a1A hB (by omega) ha hq];exact ⟨rfl,rfl⟩
 ·have hN:=hc;clear hc;refine lq' false [1,4,5,14,15] [2] [] (fun i:{k:Nat // k<=n/\(p.Decls.take k).any (fun x=>x.Name==(p.Decls.getD n default).Name)=false}=>[(6,slV (.i .i64 i.1))]) nl' nl' (fun i=>n - i.1) (⟨0,by omega,by simp⟩) ?_;intro S1 hS1 i;obtain ⟨k,hk,hx⟩:=i;simp only [go_sem,hS0,hS1];repeat' first|apply cj'|intro hc|exact om'|fail
  ·have:((p.Decls.take n).any fun x=>x.Name==(p.Decls.getD n default).Name)=true:=by
    refine a9z (q:=fun x:c9=>x.Name==(p.Decls.getD n default).Name) (i:=k) default (by rw [q0L];omega) ?_;have e:(p.Decls.take n).getD k default=p.Decls.getD k default:=by
     simp only [V9,List.getElem?_take];rw [if_pos (by omega)]
    rw [e];exact hc
   have hq:s8 p n=true:=by rw [s8,this,q3M]
   rw [a1A hB (by omega) ha hq];exact ⟨rfl,rfl⟩
  ·exact nx1 ⟨k+1,by omega,t2 (p:=fun x:c9=>x.Name==(p.Decls.getD n default).Name) default (by omega) hx hc⟩
  ·have e:k=n:=by omega
   subst e;have hq:s8 p k=false:=by rw [s8,hx];simp only [pkB,fwB,hN,q3O]
   exact nx1 ⟨k+1,by omega,b0n ha hq⟩
 have hd:∀ j,j < p.Decls.length->s8 p j=false:=fun j hj=>ha j (by omega)
 clear hc ha;refine lq' false [1,48] [2] [] (fun i:{i:Nat // i<=p.Rules.length/\∀ j,j < i->y9 p j=false}=>[(49,slV (.i .i64 i.1))]) nl' nl' (fun i=>p.Rules.length - i.1) (⟨0,by omega,by intro j h;omega⟩) ?_;intro S2 hS2 i;obtain ⟨n,hn,ha⟩:=i;simp only [go_sem,hS0,hS2];repeat' first|apply cj'|intro hc|exact om'|fail
 ·exact ⟨c1f hB (by omega),hB⟩
 ·have hq:y9 p n=true:=by
   have:=b2l p (p.Rules.getD n default);rw [y9,q0P,beq_eq_false_iff_ne];omega
  rw [a2Z hB hd (by omega) ha hq];exact ⟨rfl,rfl⟩
 ·have hq:y9 p n=false:=by
   have:=b2l p (p.Rules.getD n default);rw [y9,q2I,beq_iff_eq];omega
  (refine lpK_n2 (⟨n+1,by omega,b0n ha hq⟩) _ rfl ?_;simp only [go_sem,hS0,hS2]<;>repeat' first|apply V3|exact on'|fail)
 ·rw [a8h hB hd (fun j hj=>ha j (by omega))];exact ⟨rfl,rfl⟩
noncomputable def a2a:CT:=j6 (fun (x:c5)=>b0g x)
@[go_sem] def c0b:=fun x0 x1=>nm' (fQ' a2a rfl ⟨x0,x1⟩)
def c0l {α:Type} (l:List α) (n:Nat):cut l 0 n=l.take n:=by unfold cut;simp
def a9Z (p:c5):spZ 52 [(true,[o8 p.Decls,n7 p.Rules])] [] (.tup [(false,[.i .i64 ((i6 p).1)]),(false,[.i .i64 ((i6 p).2)])]):=by
 refine sy' Tryz.func52 (q' 1 [ao (.box 2 (.t 0)),aK 0,aK 0] (.seq (q' 9 [ae 2 1,ac 62 [9],ao (.not (.t 10))] (.cond (.t 11) (q' 2 [aK 1,aK 0] .ret) .skip)) (.seq (q' 12 [aG 0 1,aN,aK 0] (.block 0 (.loop (q' 16 [ar 15 14] (.seq (.cond (.t 16) .skip (.exit 0)) (.seq (.block 1 (q' 17 [am 15,ai 3 13 15,aE 3,ax (w' 5 [.i .i64,.s,.i .i64]),av 4 17,aS 3 5 19] (q' 20 [aG 1 5,ao (.bin .eql (.t 21) (.k (.v false [.c (.s [112,97,99,107,101,116])]))),am 22,au (.fa 1 (.t 5)) 23 false,au (.ld false 1 (.t 24)) 23 false,au (.bin .eql (.t 25) (.k (.v false [.c (.s [102,111,114,119,97,114,100])]))) 23 false,ao (.pick (.t 23) (bb true) (.t 26)),am 27,au (.fa 0 (.t 1)) 28 false,au (.ld false 1 (.t 29)) 28 false,au (.mov (.t 4)) 28 false,au (.slc 3 (.t 30) none (some (.t 31)) none) 28 false,au (.mf 116 [.t 5]) 28 false,au (.call 115 [.t 32,.t 33]) 28 false,ao (.pick (.t 28) (bb true) (.t 34))] (.cond (.t 35) (q' 36 [am 4,az 2 2,aV 3] .ret) .skip)))) (g' 37 [aA 15]))))))) (.seq (q' 38 [aG 1 1,aN,aK 0] (.block 2 (.loop (q' 42 [ar 41 40] (.seq (.cond (.t 42) .skip (.exit 2)) (.seq (.block 3 (q' 43 [am 41,ai 4 39 41,aE 4,ax (w' 7 [.i .i64,.s,.sl j4,.sl a2t]),av 6 43,aS 4 7 45] (q' 46 [ae 2 1,ae 4 7,ac 117 [46,47],aV 8] (q' 49 [am 8,ao (.bin .neq (.t 49) (k' 0))] (.cond (.t 50) (q' 51 [aM [8,6],av 2 51,aV 3] .ret) .skip))))) (g' 53 [aA 41]))))))) (q' 2 [aK 0,aK 0] .ret))))) [.t 2,.t 3] [(62,[],a1f),(115,[],a9E),(117,[],a5L)] ?_;intro hb hE;simp only [go_sem];repeat' first|apply cj'|intro hc|exact om'|fail
 ·rw [a2I hc];exact ⟨rfl,rfl⟩
 have hB:p8 p=true:=hc;clear hc;refine lq' false [1,13,14] [2] [] (fun i:{i:Nat // i<=p.Decls.length/\∀ j,j < i->s8 p j=false}=>[(15,slV (.i .i64 i.1))]) nl' nl' (fun i=>p.Decls.length - i.1) (⟨0,by omega,by intro j h;omega⟩) ?_;intro S0 hS0 i;obtain ⟨n,hn,ha⟩:=i;simp only [go_sem,hS0];repeat' first|apply cj'|intro hc|exact om'|fail
 ·rw [c0l] at hc;have hq:s8 p n=true:=by rcases hc with (hc|hc)|hc<;>simp only [s8,pkB,fwB,hc,q4X,q3M]
  rw [a1A hB (by omega) ha hq];exact ⟨rfl,rfl⟩
 ·rw [c0l] at hc;have hq:s8 p n=false:=by simp only [s8,pkB,fwB,hc,q3O]
  exact nx0 ⟨n+1,by omega,b0n ha hq⟩
 have hd:∀ j,j < p.Decls.length->s8 p j=false:=fun j hj=>ha j (by omega)
 clear hc ha;refine lq' false [1,39,40] [2] [] (fun i:{i:Nat // i<=p.Rules.length/\∀ j,j < i->y9 p j=false}=>[(41,slV (.i .i64 i.1))]) nl' nl' (fun i=>p.Rules.length - i.1) (⟨0,by omega,by intro j h;omega⟩) ?_;intro S1 hS1 i;obtain ⟨n,hn,ha⟩:=i;simp only [go_sem,hS0,hS1];repeat' first|apply cj'|intro hc|exact om'|fail
 ·exact c1f hB (by omega)
 ·have hq:y9 p n=true:=by
   simp only [bne,q0P,beq_eq_false_iff_ne] at hc;rw [y9,q0P,beq_eq_false_iff_ne];exact hc
  rw [a2Z hB hd (by omega) ha hq];exact ⟨rfl,rfl⟩
 ·have hq:y9 p n=false:=by
   simp only [bne,q2I,beq_iff_eq] at hc;rw [y9,q2I,beq_iff_eq];exact hc
  exact nx1 ⟨n+1,by omega,b0n ha hq⟩
 ·rw [a8h hB hd (fun j hj=>ha j (by omega))];exact ⟨rfl,rfl⟩
noncomputable def a1X:CT:=j6 (fun (x:c5)=>a9Z x)
@[go_sem] def b9U:=fun x0 x1=>nm' (fQ' a1X rfl ⟨x0,x1⟩)
def bodyN (r:c6):List (List UInt8):=((q0 r).drop 1).map d4.Name
def c8n (p:c5) (a:List UInt8) (r:c6):Bool:=(r.Kind==1&&a1b p r.Head.Name==3)&&r.Head.Name==a
def a3h (p:c5) (a:List UInt8):List (List UInt8):=(p.Rules.filter (c8n p a)).flatMap bodyN
inductive Rch (p:c5) (a:List UInt8):List UInt8->Prop
 | one {b:List UInt8}:b∈a3h p a->Rch p a b
 | step {b c:List UInt8}:Rch p a b->c∈a3h p b->Rch p a c
def b6M (p:c5):List (List UInt8):=p.Rules.flatMap bodyN
def b5H {p:c5} {a b:List UInt8} (h:b∈a3h p a):b∈b6M p:=by
 obtain ⟨r,hr,hb⟩:=q2Z.1 h;exact q2Z.2 ⟨r,(q1S.1 hr).1,hb⟩
def Rch.all {p:c5} {a b:List UInt8} (h:Rch p a b):b∈b6M p:=by
 cases h with
 | one h=>exact b5H h
 | step _ h=>exact b5H h
def Rch.mem {p:c5} {a:List UInt8} {l:List (List UInt8)} (h1:∀ x∈a3h p a,x∈l) (h2:∀ x∈l,∀ y∈a3h p x,y∈l) {b:List UInt8} (h:Rch p a b):b∈l:=by
 induction h with
 | one h=>exact h1 _ h
 | step _ h ih=>exact h2 _ ih _ h
open Classical in
noncomputable def reachS (p:c5) (a:List UInt8):List (List UInt8):=(s5 sLt [] (b6M p)).filter fun v=>decide (Rch p a v)
noncomputable def leans (p:c5) (a b:List UInt8):Bool:=(i6 p).1==0&&(reachS p a).contains b
def a4I (o l:List (List UInt8)):List (List UInt8):=l.foldl (fun o y=>if y∈o then o else o++[y]) o
def b4b:∀ (l o:List (List UInt8)),∃ s,a4I o l=o++s/\(∀ x∈s,x∈l)
 | [],o=>⟨[],by simp [a4I],by simp⟩
 | y::l,o=>by
   by_cases h:y∈o
   ·obtain ⟨s,e,hs⟩:=b4b l o;exact ⟨s,by rw [<- e];simp [a4I,h],fun x hx=>q2H _ (hs x hx)⟩
   ·obtain ⟨s,e,hs⟩:=b4b l (o++[y]);refine ⟨y::s, ?_, ?_⟩
    ·have:a4I o (y::l)=a4I (o++[y]) l:=by simp [a4I,h]
     rw [this,e];simp
    ·intro x hx;rcases V5.1 hx with rfl|hx
     ·simp
     ·exact q2H _ (hs x hx)
def a4J {l o:List (List UInt8)} {x:List UInt8}:x∈a4I o l↔x∈o\/x∈l:=by
 induction l generalizing o with
 | nil=>simp [a4I]
 | cons y l ih=>
   have e:a4I o (y::l)=a4I (if y∈o then o else o++[y]) l:=rfl;rw [e,ih];by_cases h:y∈o
   ·simp only [h,if_true,V5];constructor
    ·rintro (h1|h1);exact .inl h1;exact .inr (.inr h1)
    ·rintro (h1|rfl|h1);exact .inl h1;exact .inl h;exact .inr h1
   ·rw [if_neg h,V0,V6,V5,or_assoc]
def a8C:∀ {l o:List (List UInt8)},o.Nodup->(a4I o l).Nodup
 | [],o,h=>h
 | y::l,o,h=>by
   have e:a4I o (y::l)=a4I (if y∈o then o else o++[y]) l:=rfl;rw [e];by_cases hy:y∈o
   ·rw [if_pos hy];exact a8C h
   ·rw [if_neg hy];refine a8C (q0C.2 ⟨h,by simp, ?_⟩);intro a ha b hb;rw [V6] at hb;rintro rfl;exact hy (hb▸ha)
def univ (p:c5):Nat:=(b6M p).length
structure FInv (p:c5) (v:List UInt8) (k:Nat) (o n:List (List UInt8)):Prop where
 nd:o.Nodup
 un:∀ x∈o,x∈b6M p
 ok:∀ x∈o,Rch p v x
 nx:∀ x∈n,x=v\/x∈o
 cl:∀ x,x=v\/x∈o->x∈n\/∀ y∈a3h p x,y∈o
 ms:n=[]\/k+2 * (univ p - o.length)+n.length<=2 * univ p+1
def b7w {α:Type} [DecidableEq α]:∀ {l m:List α},l.Nodup->(∀ x∈l,x∈m)->l.length<=m.length
 | [],_,_,_=>q1Y _
 | x::l,m,h,hm=>by
   rw [q1H] at h;have h1:=b7w (l:=l) (m:=m.erase x) h.2 fun y hy=>(List.mem_erase_of_ne (fun e=>h.1 (by rw [<- e];exact hy))).2 (hm y (by simp [hy]))
   have h2:=List.length_erase_of_mem (hm x (by simp));have h3:0 < m.length:=List.length_pos_of_mem (hm x (by simp));simp only [W7];omega
def FInv.step {p:c5} {v:List UInt8} {k:Nat} {o r:List (List UInt8)} {x:List UInt8} (h:FInv p v k o (x::r)):FInv p v (k+1) (a4I o (a3h p x)) (r++(a4I o (a3h p x)).drop o.length):=by
 obtain ⟨s,e,hs⟩:=b4b (a3h p x) o;have hd:(a4I o (a3h p x)).drop o.length=s:=by rw [e];simp
 have hx:x=v\/Rch p v x:=(h.nx x (by simp)).imp id (h.ok x);have hR:∀ y∈a3h p x,Rch p v y:=fun y hy=>by
  rcases hx with rfl|hx
  ·exact .one hy
  ·exact .step hx hy
 have hun:∀ y∈a4I o (a3h p x),y∈b6M p:=fun y hy=>(a4J.1 hy).elim (h.un y) b5H
 have hnd:=a8C (l:=a3h p x) h.nd;refine ⟨hnd,hun,fun y hy=>(a4J.1 hy).elim (h.ok y) (hR y), ?_, ?_, ?_⟩
 ·intro y hy;rw [hd] at hy;rcases V0.1 hy with hy|hy
  ·exact (h.nx y (by simp [hy])).imp id fun hy=>a4J.2 (.inl hy)
  ·exact .inr (a4J.2 (.inr (hs y hy)))
 ·intro y hy;rw [hd];have old:y=v\/y∈o->y∈r++s\/∀ z∈a3h p y,z∈a4I o (a3h p x):=by
   intro hy;rcases h.cl y hy with h1|h1
   ·rcases V5.1 h1 with rfl|h1
    ·exact .inr fun z hz=>a4J.2 (.inr hz)
    ·exact .inl (V0.2 (.inl h1))
   ·exact .inr fun z hz=>a4J.2 (.inl (h1 z hz))
  rcases hy with hy|hy
  ·exact old (.inl hy)
  ·rw [e] at hy;rcases V0.1 hy with hy|hy
   ·exact old (.inr hy)
   ·exact .inl (V0.2 (.inr hy))
 ·right;have h1:=b7w hnd hun;have h2:(a4I o (a3h p x)).length=o.length+s.length:=by rw [e,W2]
  have h3:=h.ms.resolve_left (by simp);rw [hd];simp only [W7,W2,univ] at h1 h3 ⊢;omega
def b9R {p:c5} (h:p8 p=true) {i:Nat} (hi:i < p.Rules.length):(p.Rules.getD i default).Body.length<=8:=c0x h (A3w hi)
def nextF (p:c5) (a:List UInt8) (n:Nat):List (List UInt8):=((p.Rules.take n).filter (c8n p a)).flatMap bodyN
@[go_sem] def nextF_zero (p:c5) (a:List UInt8):nextF p a 0=[]:=rfl
@[go_sem] def putsN_nil (l:List (List UInt8)):s5 sLt l []=l:=rfl
@[go_sem] def addL_nil (o:List (List UInt8)):a4I o []=o:=rfl
def a8V {p:c5} (h:((i6 p).1==0)=true):p8 p=true:=by
 cases hB:p8 p with
 | true=>rfl
 | false=>rw [a2I hB] at h;simp at h
def b0a (p:c5) (r:c6):spZ 43 [(true,[o8 p.Decls,n7 p.Rules]),(true,[.i .i64 r.Kind,.s r.Head.Name,m0 r.Head.Args,a0W r.Body])] [] (.one (false,[.b (r.Kind==1&&a1b p r.Head.Name==3)])):=by
 refine sy' Tryz.func43 (q' 2 [ao (.box 2 (.t 0)),ao (.box 4 (.t 1)),ao (.mov (bb false))] (q' 5 [aG 0 3,ao (.bin .eql (.t 6) (k' 1)),am 7,au (.ld true 2 (.t 2)) 8 true,au (.fa 1 (.t 3)) 8 true,au (.fa 0 (.t 10)) 8 true,au (.ld false 1 (.t 11)) 8 true,au (.call 46 [.t 9,.t 12]) 8 true,au (.bin .eql (.t 13) (k' 3)) 8 true,ao (.pick (.t 8) (.t 14) (bb false)),aV 4] .ret)) [.t 4] [(46,[],a0T)] ?_;intro hb hE;simp only [go_sem];repeat' first|apply cj'|intro hc|exact om'|fail
 all_goals (first|rfl|(rw [hc];rfl))
noncomputable def a4c:CT:=j6 (fun (x:c5×c6)=>b0a x.1 x.2)
@[go_sem] def b9V:=fun x0 x1 x2 x3 x4 x5=>nm' (fQ' a4c rfl (⟨x0,x1⟩,⟨x2,⟨x3,x4⟩,x5⟩))
def b0b (p:c5):spZ 39 [(true,[o8 p.Decls,n7 p.Rules])] [] (.one (false,[.b ((i6 p).1==0)])):=by
 refine sy' Tryz.func39 (q' 0 [ax (o' 1 (.box 2 (.t 0))),ab 2 false] (q' 6 [ae 2 1,ac 52 [6],aV 5,ao (.ext (.t 5) 0),ao (.ext (.t 5) 1),av 3 8,aV 4] (q' 10 [am 3,ao (.bin .eql (.t 10) (k' 0)),aV 2] .ret))) [.t 2] [(52,[],a1X)] ?_;intro hb hE;simp only [go_sem];repeat' first|apply cj'|intro hc|exact om'|fail
 all_goals (first|rfl)
noncomputable def a4d:CT:=j6 (fun (x:c5)=>b0b x)
@[go_sem] def b9W:=fun x0 x1=>nm' (fQ' a4d rfl ⟨x0,x1⟩)
@[go_sem] def c9c (l o:List (List UInt8)):l++List.drop o.length o=l:=by simp
def b1K (q:Nat->Bool):∀ n,(∀ j,j < n->q j=false)\/∃ i,i < n/\(∀ j,j < i->q j=false)/\q i=true
 | 0=>.inl fun j hj=>by omega
 | n+1=>by
   rcases b1K q n with h|⟨i,hi,h1,h2⟩
   ·cases hq:q n with
    | true=>exact .inr ⟨n,by omega,h,hq⟩
    | false=>exact .inl (b0n h hq)
   ·exact .inr ⟨i,by omega,h1,h2⟩
def c0W {p:c5} (h:(i6 p).1=0):p8 p=true/\(∀ j,j < p.Decls.length->s8 p j=false)/\∀ j,j < p.Rules.length->y9 p j=false:=by
 cases hB:p8 p with
 | false=>rw [a2I hB] at h;simp at h
 | true=>
   rcases b1K (s8 p) p.Decls.length with hd|⟨i,hi,h1,h2⟩
   ·rcases b1K (y9 p) p.Rules.length with hr|⟨i,hi,h1,h2⟩
    ·exact ⟨rfl,hd,hr⟩
    ·rw [a2Z hB hd hi h1 h2] at h;simp only at h;rw [y9,h] at h2;simp at h2
   ·rw [a1A hB hi h1 h2] at h;simp at h
def b5F {p:c5} (hd:∀ j,j < p.Decls.length->s8 p j=false) {i j:Nat} (hi:i < p.Decls.length) (hj:j < i):(p.Decls.getD j default).Name≠(p.Decls.getD i default).Name:=by
 have h:=hd i hi;simp only [s8,q0R,q2L] at h;intro e;refine h.2 (p.Decls.getD j default) ?_ (by simpa using e);rw [v8 default (by omega)];exact q3E.2 ⟨j,by omega,rfl⟩
def vwN (p:c5):List (List UInt8):=(p.Decls.filter fun d=>d.Kind==3).map c9.Name
def vwS (p:c5):List (List UInt8):=s5 sLt [] (vwN p)
def vwS_SS (p:c5):SS sLt (vwS p):=SS.puts u1 SS.nil
def b1W (p:c5):(vwS p).Nodup:=(vwS_SS p).nodup u1
def mem_vwS {p:c5} {v:List UInt8}:v∈vwS p↔∃ d∈p.Decls,d.Kind=3/\d.Name=v:=by
 rw [vwS,a0o,vwN];simp only [q3U,false_or,q1L,q1S,beq_iff_eq,and_assoc]
def a2A {p:c5} (hd:∀ j,j < p.Decls.length->s8 p j=false) {v:List UInt8}:a1b p v=3↔v∈vwS p:=by
 rw [mem_vwS];constructor
 ·intro h;have hs:a1i p v=true:=by
   cases hs:a1i p v with
   | true=>rfl
   | false=>rw [a1b,(a7n hs).1] at h;exact absurd h (by decide)
  obtain ⟨x,hx,hp,e⟩:=c0t hs;rw [a1b,a0L,e] at h;exact ⟨x,hx,h,by simpa using hp⟩
 ·rintro ⟨d,hm,hk,rfl⟩;obtain ⟨i,hi,rfl⟩:=List.getElem_of_mem hm;have e:p.Decls.getD i default=p.Decls[i]:=v8 default hi;have ha:((p.Decls.take i).any fun d=>d.Name==(p.Decls[i]).Name)=false:=by
   rw [q2L];intro x hx;obtain ⟨j,hj,rfl⟩:=q3E.1 hx;have h1:=b5F hd hi (j:=j) (by omega);rw [e,v8 default (by omega)] at h1;simpa using h1
  rw [a1b,(b1l hi ha (by rw [e];simp)).1,e];exact hk
def c3e {p:c5} (hr:∀ j,j < p.Rules.length->y9 p j=false) {i:Nat} (hi:i < p.Rules.length) (hk:a1b p (p.Rules.getD i default).Head.Name=3):(p.Rules.getD i default).Kind=1:=by
 have h:u4 p (p.Rules.getD i default)=0:=by
  have h:=hr i hi;rw [y9,q2I,beq_iff_eq] at h;exact h
 generalize p.Rules.getD i default=r at h hk ⊢;refine Classical.byContradiction fun hne=>?_
 have hb:a3n p r=true:=by rw [a3n,show (r.Kind==1)=false from beq_eq_false_iff_ne.2 hne,W4,hk];rfl
 unfold u4 at h;rw [hb] at h;cases h1:(q0 r).any (a3X p)<;>rw [h1] at h<;>cases h2:(q0 r).any (a3Y p)<;>rw [h2] at h<;>simp at h
abbrev Lev:=List UInt8->Int
def lvl (p:c5) (g:Lev):List d3:=(vwS p).map fun v=>⟨v,g v⟩
def upd (g:Lev) (v:List UInt8) (n:Int):Lev:=fun x=>if x=v then n else g x
def a7h (l:c7):Int:=if l.Kind=2 then 1 else 0
def a2Q (p:c5) (g:Lev) (h:List UInt8) (l:c7):Prop:=l.Kind≠3->l.Atom.Name∈vwS p->g l.Atom.Name+a7h l<=g h
def a0n (p:c5) (g:Lev) (r:c6):Prop:=r.Head.Name∈vwS p->∀ l∈r.Body,a2Q p g r.Head.Name l
def Fx (p:c5) (g:Lev):Prop:=∀ r∈p.Rules,a0n p g r
structure Low (p:c5) (g:Lev):Prop where
 ge:∀ v,0<=g v
 mn:∀ F,Fx p F->(∀ v,0<=F v)->∀ v∈vwS p,g v<=F v
structure Least (p:c5) (g:Lev):Prop where
 fx:Fx p g
 low:Low p g
 le:∀ v∈vwS p,g v<=(vwS p).length
open Classical in
noncomputable def a0l (p:c5):List d3×Bool:=bif (i6 p).1==0 then (if h:∃ g,Least p g then (lvl p h.choose,true) else ([],false)) else ([],false)
def c6s {p:c5} {g g':Lev} (h:∀ v∈vwS p,g v=g' v):lvl p g=lvl p g':=q2R fun v hv=>by rw [h v hv]
def b5x {p:c5} (h:((i6 p).1==0)=true) {g:Lev} (hg:Least p g):a0l p=(lvl p g,true):=by
 have hx:∃ g,Least p g:=⟨g,hg⟩
 rw [a0l,h,W5,dif_pos hx];have h2:=hx.choose_spec;refine congrArg (·,true) (c6s fun v hv=>Int.le_antisymm ?_ ?_)
 ·exact h2.low.mn g hg.fx hg.low.ge v hv
 ·exact hg.low.mn _ h2.fx h2.low.ge v hv
def b7r {p:c5} {g:Lev} (hg:Low p g) {v:List UInt8} (hv:v∈vwS p) (hn:((vwS p).length:Int) < g v):a0l p=([],false):=by
 rw [a0l];cases (i6 p).1==0 with
 | false=>rfl
 | true=>
   rw [W5,dif_neg];rintro ⟨F,hF⟩;have h1:=hg.mn F hF.fx hF.low.ge v hv;have h2:=hF.le v hv;omega
def Low.zero (p:c5):Low p fun _=>0:=⟨fun _=>q4E _,fun F _ h v _=>h v⟩
def Low.up {p:c5} {g:Lev} (h:Low p g) {r:c6} (hr:r∈p.Rules) (hh:r.Head.Name∈vwS p) {l:c7} (hl:l∈r.Body) (hk:l.Kind≠3) (hb:l.Atom.Name∈vwS p):Low p (upd g r.Head.Name (g l.Atom.Name+a7h l)):=by
 have hn:0<=a7h l:=by unfold a7h;split<;>omega
 refine ⟨fun v=>?_,fun F hF hF0 v hv=>?_⟩
 ·unfold upd;split
  ·have:=h.ge l.Atom.Name;omega
  ·exact h.ge v
 ·unfold upd;split
  ·rename_i e;subst e;have h1:=hF r hr hh l hl hk hb;have h2:=h.mn F hF hF0 _ hb;omega
  ·exact h.mn F hF hF0 v hv
def a2R (p:c5) (g:Lev):Nat:=b8X (fun v=>((vwS p).length+400 - g v).toNat) (vwS p)
def c4O {α:Type} [DecidableEq α] {f f':α->Nat} {x:α}:∀ {l:List α},l.Nodup->x∈l->(∀ y,y≠x->f' y=f y)->f' x < f x->b8X f' l < b8X f l
 | [],_,hx,_,_=>by simp at hx
 | y::l,hn,hx,h1,h2=>by
   rw [q1H] at hn;simp only [b8X];by_cases e:y=x
   ·subst e;have:∀ {m:List α},¬ y∈m->b8X f' m=b8X f m:=by
     intro m
     induction m with
     | nil=>intro _;rfl
     | cons z m ih=>
       intro hm;simp only [V5,not_or] at hm;simp only [b8X,h1 z (fun e=>hm.1 e.symm),ih hm.2]
    rw [this hn.1];omega
   ·have hx':x∈l:=by
     rcases V5.1 hx with h|h
     ·exact absurd h.symm e
     ·exact h
    have:=c4O hn.2 hx' h1 h2;rw [h1 y e];omega
def lsum_lt {p:c5} {g:Lev} {v:List UInt8} {n:Int} (hv:v∈vwS p) (h:g v < n) (hn:g v < (vwS p).length+400):a2R p (upd g v n) < a2R p g:=by
 refine c4O (b1W p) hv (fun y hy=>by simp [upd,hy]) ?_;simp only [upd,if_true];omega
def b0p (p:c5) (g:Lev):(lvl p g).length=(vwS p).length:=by simp [lvl]
def c0T (p:c5) (g:Lev) {i:Nat} (h:i < (vwS p).length):(lvl p g).getD i default=⟨(vwS p).getD i [],g ((vwS p).getD i [])⟩:=by
 rw [v8 _ (by rw [b0p];exact h),v8 _ h];simp [lvl]
def c4A (p:c5) (g:Lev) {i:Nat} (h:i < (vwS p).length) (n:Int):(lvl p g).set i ⟨(vwS p).getD i [],n⟩=lvl p (upd g ((vwS p).getD i []) n):=by
 have e0:(vwS p).getD i []=(vwS p)[i]:=v8 [] h;rw [e0];apply q4L
 ·simp [lvl]
 ·intro j h1 h2;have hj:j < (vwS p).length:=by simpa [lvl] using h2
  rw [List.getElem_set];split
  ·rename_i e;subst e;simp [lvl,upd]
  ·rename_i e;have hne:(vwS p)[j]≠(vwS p)[i]:=fun h3=>e ((List.getElem_inj (b1W p)).1 h3).symm
   simp [lvl,upd,hne]
end Go.Aw
namespace Go.Aw
open Go.Proofs Go.Shelf Go.RowKit Go.Sort
attribute [local irreducible] aft blk lpK retK AW A0d
set_option linter.all false
set_option maxRecDepth 100000
def b7g (x y:d3):Int:=Lib.compareBytes x.Name y.Name
def b7l (x:d3):List Value:=[encStr x.Name,.int .i64 x.N]
def b8V (a:List d3):List d3:=(pdq (ltOf b7g) a.toArray 0 a.length (Lib.bitLen a.length) true true).toList
def b0m (x y:d3):ltOf b7g x y=sLt x.Name y.Name:=cmp_lt x.Name y.Name
def b7h:SWO (ltOf b7g) where
 irrefl x:=by rw [b0m];exact a5j _
 trans x y z h1 h2:=by rw [b0m] at *;exact a3R _ _ _ h1 h2
 ntrans x y z h1 h2:=by
  rw [b0m] at *;cases h:sLt x.Name z.Name with
  | false=>rfl
  | true=>
    cases h3:sLt y.Name x.Name with
    | true=>
      have h4:sLt y.Name z.Name=true:=a3R _ _ _ h3 h;rw [h4] at h2;exact h2
    | false=>
      have e:=a3t _ _ h1 h3;rw [e,h2] at h;exact h.symm
def c1j {l:List (List UInt8)} (hn:l.Nodup):b8V (l.map fun v=>⟨v,0⟩)=(s5 sLt [] l).map fun v=>⟨v,0⟩:=by
 have hp:=pdq_sorts (ltOf b7g) b7h (l.map fun v=>(⟨v,0⟩:d3)).toArray 0 (l.map fun v=>(⟨v,0⟩:d3)).length (Lib.bitLen (l.map fun v=>(⟨v,0⟩:d3)).length) true true (q1Y _) (by simp) (Or.inl rfl);rw [b8V];generalize pdq (ltOf b7g) (l.map fun v=>(⟨v,0⟩:d3)).toArray 0 (l.map fun v=>(⟨v,0⟩:d3)).length (Lib.bitLen (l.map fun v=>(⟨v,0⟩:d3)).length) true true=D at hp ⊢;have hDs:D.size=(l.map fun v=>(⟨v,0⟩:d3)).length:=by have:=hp.1.1;simpa using this
 have hperm:D.toList.Perm (l.map fun v=>(⟨v,0⟩:d3)):=by
  have:=hp.1.2.2;simp only [Array.toList_extract] at this;have e1:(D.toList.extract 0 (l.map fun v=>(⟨v,0⟩:d3)).length)=D.toList:=by simp only [List.extract,q4V,q0T,<- hDs];exact q0V (by simp)
  have e2:((l.map fun v=>(⟨v,0⟩:d3)).toArray.toList.extract 0 (l.map fun v=>(⟨v,0⟩:d3)).length)=(l.map fun v=>(⟨v,0⟩:d3)):=by simp only [List.extract,q4V,q0T];exact q0V (by simp)
  rw [e1,e2] at this;exact this
 have hnames:(D.toList.map d3.Name).Perm l:=by
  have:=hperm.map d3.Name;simpa [Function.comp_def] using this
 have hsorted:(D.toList.map d3.Name).Pairwise fun a b=>sLt b a=false:=by
  rw [List.pairwise_iff_getElem];intro i j hi hj hij;have hi':i < D.size:=by simpa using hi
  have hj':j < D.size:=by simpa using hj
  have:=hp.2 i j (q1Y _) hij (by rw [<- hDs];exact hj');rw [b0m,getElem!_pos D i hi',getElem!_pos D j hj'] at this;simpa using this
 have hSS:SS sLt (D.toList.map d3.Name):=SS.of_sorted u1 hsorted (hnames.nodup_iff.2 hn);have he:D.toList.map d3.Name=s5 sLt [] l:=SS.uniq u1 hSS (SS.puts u1 SS.nil) fun x=>by rw [hnames.mem_iff,a0o];simp
 have hz:∀ x∈D.toList,x.N=0:=fun x hx=>by
  obtain ⟨v,_,rfl⟩:=q1L.1 (hperm.mem_iff.1 hx);rfl
 rw [<- he,q3L];refine (List.map_id _).symm.trans (q2R fun x hx=>?_);have:=hz x hx;cases x;simp only at this;subst this;rfl
def c4I {F:Nat->Prop} {w:World}:∀ {l:List d3} {vs:List Value} {fp:List Nat},C.RdRows F w (l.map d3.cells) vs fp->vs=l.flatMap b7l/\fp=[]/\∀ n,n∈l->n.Name.length<=maxLen/\IntKind.i64.min<=n.N/\n.N<=IntKind.i64.max
 | [],vs,fp,h=>by
   unfold List.map C.RdRows at h;exact ⟨h.1,h.2,by simp⟩
 | n::l,vs,fp,h=>by
   rw [q0E] at h;unfold C.RdRows at h;obtain ⟨v1,v2,f1,f2,rfl,rfl,h1,h2⟩:=h;obtain ⟨rfl,rfl,h3⟩:=c4I h2;unfold d3.cells C.RdVals at h1;obtain ⟨v,vs',g1,g2,rfl,rfl,k1,k2⟩:=h1;unfold C.RdVals at k2;obtain ⟨u,us',g3,g4,rfl,rfl,k3,k4⟩:=k2;unfold C.RdVals at k4;obtain ⟨rfl,rfl⟩:=k4;unfold C.Rd at k1 k3;obtain ⟨rfl,q1,rfl⟩:=k1;obtain ⟨rfl,q3,rfl⟩:=k3;refine ⟨rfl,rfl,fun m hm=>?_⟩;rcases V5.1 hm with rfl|hm
   ·exact ⟨q1,q3⟩
   ·exact h3 m hm
def c4z {F:Nat->Prop} {w:World}:∀ {l:List d3},(∀ n,n∈l->n.Name.length<=maxLen/\IntKind.i64.min<=n.N/\n.N<=IntKind.i64.max)->C.RdRows F w (l.map d3.cells) (l.flatMap b7l) []
 | [],h=>by unfold List.map C.RdRows;exact ⟨rfl,rfl⟩
 | n::l,h=>by
   rw [q0E,q1M];unfold C.RdRows;refine ⟨b7l n,_,[],[],rfl,rfl, ?_,c4z fun m hm=>h m (by simp [hm])⟩;have hn:=h n (by simp);unfold d3.cells b7l C.RdVals;refine ⟨_,_,[],[],rfl,rfl, ?_, ?_⟩
   ·unfold C.Rd;exact ⟨rfl,hn.1,rfl⟩
   ·unfold C.RdVals;refine ⟨_,[],[],[],rfl,rfl, ?_, ?_⟩
    ·unfold C.Rd;exact ⟨rfl,hn.2,rfl⟩
    ·unfold C.RdVals;exact ⟨rfl,rfl⟩
def c2U (a b:ByteArray) (w:World):Calls Tryz.prog 42 #[.string a,.string b] w fun e w'=>e=.returned (.int .i64 (Lib.compareBytes a.data.toList b.data.toList))/\w' = w:=by
 have HC:∀ w,Aside (Calls Tryz.prog 103 #[.string a,.string b] w fun e w'=>e=.returned (.int .i64 (Lib.compareBytes a.data.toList b.data.toList))/\w' = w):=fun w=>b7d a b w
 generalize Lib.compareBytes a.data.toList b.data.toList=r at HC ⊢
 go_enter Tryz.func42,Tryz.ntmps42
 go_wp2_with (go_at_call 103;refine (HC _).out.mono ?_;rintro e w' ⟨rfl,rfl⟩)
 go_ret
 exact ⟨rfl,rfl⟩
def c6q (a b:ByteArray) (m n:Int) (W:World):Calls Tryz.prog 41 #[.agg #[.string a,.int .i64 m],.agg #[.string b,.int .i64 n]] W fun e w'=>e=.returned (.int .i64 (Lib.compareBytes a.data.toList b.data.toList))/\∃ q os',w' = grow (W.drewN q) os':=by
 have HC:∀ w,Aside (Calls Tryz.prog 42 #[.string a,.string b] w fun e w'=>e=.returned (.int .i64 (Lib.compareBytes a.data.toList b.data.toList))/\w' = w):=fun w=>c2U a b w
 generalize Lib.compareBytes a.data.toList b.data.toList=r at HC ⊢
 go_enter Tryz.func41,Tryz.ntmps41
 go_wp2_with (go_at_call 42;refine (HC _).out.mono ?_;rintro e w' ⟨rfl,rfl⟩)
 go_ret
 exact ⟨rfl,0,_,by rw [alloc_eq_grow,alloc_eq_grow,grow_grow];exact rfl⟩
def c6m (a:List d3) (hpre:a.length < 4611686018427387904):spZ 40 [(false,[.sl true [.s [],.i .i64 0] (a.map d3.cells)]),(false,[.f 41 []])] [(0,(false,[.sl true [.s [],.i .i64 0] ((b8V a).map d3.cells)]))] (.tup []):=by
 exact c6F Tryz.sortLev (by kernel_rfl) (k:=2) (fun w=>rfl) (fun w=>rfl) (enc:=b7l) (cf:=d3.cells) rfl (fun _=>rfl) (fun _=>rfl) (fun x v hv=>by simp only [b7l,V5,q3U,or_false] at hv;rcases hv with rfl|rfl<;>rfl) (fun _ _ _ _ _ h=>c4I h) (fun _ _ _ h=>c4z h) b7g b7h (enters_of Tryz.func41 (by kernel_rfl) rfl) (fun W x y=>c6q ⟨x.Name.toArray⟩ ⟨y.Name.toArray⟩ x.N y.N W) a hpre
noncomputable def b7c:CT:=u2 (fun (x:(List d3)) h=>c6m x h)
@[go_sem] def c9k:=fun a=>nm' (fP' b7c rfl a)
end Go.Aw
namespace Go.Aw
open Go.Proofs
attribute [local irreducible] aft blk lpK retK AW A0d
set_option linter.all false
set_option maxRecDepth 100000
def a1w (n:List UInt8) (v:d6) (q:List d6×Bool) (x:d6):List d6×Bool:=((bif !q.2&&!sLt x.Name n then q.1++[v] else q.1)++(bif x.Name==n then [] else [x]),q.2 || !sLt x.Name n)
def a8l (n:List UInt8) (v:d6) (l:List d6):List d6×Bool:=l.foldl (a1w n v) ([],false)
def b1Q (l:List d6) (n:List UInt8) (v:d6):List d6:=bif (a8l n v l).2 then (a8l n v l).1 else (a8l n v l).1++[v]
def a5w (n:List UInt8) (v:d6) {l:List d6} {i:Nat} (h:i < l.length):a8l n v (l.take (i+1))=a1w n v (a8l n v (l.take i)) (l.getD i default):=by
 rw [i9 default h,a8l,q3S];rfl
def c4p (n:List UInt8) (v:d6):∀ (A q:List d6),(∀ x∈A,sLt x.Name n=true)->A.foldl (a1w n v) (q,false)=(q++A,false)
 | [],q,_=>by simp
 | x::A,q,h=>by
   have hx:=h x (by simp);have hne:(x.Name==n)=false:=beq_eq_false_iff_ne.2 (u1.ne hx);rw [q2C,a1w,hx,hne];have:=c4p n v A (q++[x]) fun y hy=>h y (by simp [hy])
   simpa using this
def b1p (n:List UInt8) (v:d6):∀ (B q:List d6),B.foldl (a1w n v) (q,true)=(q++B.filter fun x=>!(x.Name==n),true)
 | [],q=>by simp
 | x::B,q=>by
   rw [q2C,a1w];cases h:(x.Name==n) with
   | true=>
     have:=b1p n v B q;simpa [h] using this
   | false=>
     have:=b1p n v B (q++[x]);simpa [h] using this
def c3u {α:Type} {q:α->Bool}:∀ {l:List α} {x:α},x∈l.takeWhile q->q x=true
 | [],x,h=>by simp at h
 | a::l,x,h=>by
   rw [q2E] at h;split at h
   ·rename_i ha;rcases V5.1 h with rfl|h
    ·exact ha
    ·exact c3u h
   ·simp at h
def b8S (l:List d6) (n:List UInt8) (v:d6):b1Q l n v=l.takeWhile (fun x=>sLt x.Name n)++v::(l.dropWhile fun x=>sLt x.Name n).filter fun x=>!(x.Name==n):=by
 have e:a8l n v l=(l.dropWhile fun x=>sLt x.Name n).foldl (a1w n v) (l.takeWhile (fun x=>sLt x.Name n),false):=by
  have h0:=c4p n v (l.takeWhile fun x=>sLt x.Name n) [] fun x hx=>c3u (q:=fun x:d6=>sLt x.Name n) hx
  rw [q1B] at h0;rw [<- h0,<- q3S,q1Z];rfl
 rw [b1Q,e];cases hB:l.dropWhile fun x=>sLt x.Name n with
 | nil=>simp
 | cons b B=>
   have hb:=a2f hB;rw [q2C,a1w,hb];simp only [q2P,q1C,W5,q3M];rw [b1p];cases hn:(b.Name==n) with
   | true=>simp [hn]
   | false=>simp [hn]
def c3o {l:List d6} (hs:SS sLt (l.map d6.Name)) (n:List UInt8) (r:f7):(b1Q l n ⟨n,r⟩).map d6.Name=a2B sLt (l.map d6.Name) n:=by
 have hsplit:l=l.takeWhile (fun x=>sLt x.Name n)++l.dropWhile (fun x=>sLt x.Name n):=q1Z.symm;have hA:∀ x∈l.takeWhile (fun x=>sLt x.Name n),sLt x.Name n=true:=fun x hx=>c3u (q:=fun x:d6=>sLt x.Name n) hx
 have hBn:∀ x∈l.dropWhile (fun x=>sLt x.Name n),sLt x.Name n=false:=by
  cases hB:l.dropWhile fun x=>sLt x.Name n with
  | nil=>intro x hx;simp at hx
  | cons b B=>
    have hb:=a2f hB;intro x hx;rcases V5.1 hx with rfl|hx
    ·exact hb
    ·have hp:(l.dropWhile fun x=>sLt x.Name n).Pairwise fun a b=>sLt a.Name b.Name=true:=by
      have:=q4K.1 hs;rw [hsplit] at this;exact (List.pairwise_append.1 this).2.1
     rw [hB] at hp;have h1:=(List.pairwise_cons.1 hp).1 x hx;cases h2:sLt x.Name n with
     | false=>rfl
     | true=>
       have h3:sLt b.Name n=true:=a3R _ _ _ h1 h2;rw [h3] at hb;exact hb
 refine SS.uniq u1 ?_ (SS.put u1 hs n) fun x=>?_
 ·rw [b8S];show SS sLt _;rw [SS,q4K];have hp:=q4K.1 hs;rw [hsplit] at hp;obtain ⟨p1,p2,p3⟩:=List.pairwise_append.1 hp;have hgt:∀ x∈(l.dropWhile fun x=>sLt x.Name n).filter (fun x=>!(x.Name==n)),sLt n x.Name=true:=fun x hx=>by
   obtain ⟨h1,h2⟩:=q1S.1 hx;have h3:=hBn x h1;cases h4:sLt n x.Name with
   | true=>rfl
   | false=>
     have h5:=a3t _ _ h3 h4;rw [h5] at h2;simp at h2
  refine List.pairwise_append.2 ⟨p1,List.pairwise_cons.2 ⟨hgt,p2.filter _⟩,fun a ha b hb=>?_⟩;rcases V5.1 hb with rfl|hb
  ·exact hA a ha
  ·exact a3R _ _ _ (hA a ha) (hgt b hb)
 ·rw [c0V,b8S];simp only [q0Y,q0E,V0,V5,q1L,q1S];constructor
  ·rintro (⟨y,hy,rfl⟩|rfl|⟨y,⟨hy,_⟩,rfl⟩)
   ·exact .inr ⟨y,by rw [hsplit];exact V0.2 (.inl hy),rfl⟩
   ·exact .inl rfl
   ·exact .inr ⟨y,by rw [hsplit];exact V0.2 (.inr hy),rfl⟩
  ·rintro (rfl|⟨y,hy,rfl⟩)
   ·exact .inr (.inl rfl)
   ·rw [hsplit] at hy;rcases V0.1 hy with hy|hy
    ·exact .inl ⟨y,hy,rfl⟩
    ·by_cases e:y.Name=n
     ·exact .inr (.inl e)
     ·exact .inr (.inr ⟨y,⟨hy,by simpa using e⟩,rfl⟩)
def c8y {l:List d6} {n:List UInt8} {v x:d6} (h:x∈b1Q l n v):x=v\/x∈l:=by
 rw [b8S] at h;rcases V0.1 h with h|h
 ·exact .inr (List.takeWhile_sublist _ |>.mem h)
 ·rcases V5.1 h with h|h
  ·exact .inl h
  ·exact .inr (List.dropWhile_sublist _ |>.mem (q1S.1 h).1)
def a0B (l:List c9):List d6:=l.foldl (fun s d=>b1Q s d.Name ⟨d.Name,⟨d.Arity,[]⟩⟩) []
def a9U:∀ l:List c9,(a0B l).map d6.Name=s5 sLt [] (l.map c9.Name):=by
 intro l;have gen:∀ (l:List c9) (s:List d6),SS sLt (s.map d6.Name)->(l.foldl (fun s d=>b1Q s d.Name ⟨d.Name,⟨d.Arity,[]⟩⟩) s).map d6.Name=s5 sLt (s.map d6.Name) (l.map c9.Name):=by
  intro l
  induction l with
  | nil=>intro s _;rfl
  | cons d l ih=>
    intro s hs;have e:=c3o hs d.Name ⟨d.Arity,[]⟩;have hs2:SS sLt ((b1Q s d.Name ⟨d.Name,⟨d.Arity,[]⟩⟩).map d6.Name):=by rw [e];exact SS.put u1 hs _
    rw [q2C,ih _ hs2,e];rfl
 exact gen l [] SS.nil
def c0r:∀ l:List c9,∀ x∈a0B l,x.Rel.Rows=[]:=by
 intro l;have gen:∀ (l:List c9) (s:List d6),(∀ x∈s,x.Rel.Rows=[])->∀ x∈l.foldl (fun s d=>b1Q s d.Name ⟨d.Name,⟨d.Arity,[]⟩⟩) s,x.Rel.Rows=[]:=by
  intro l
  induction l with
  | nil=>intro s h;exact h
  | cons d l ih=>
    intro s h;rw [q2C];refine ih _ fun x hx=>?_
    rcases c8y hx with rfl|hx
    ·rfl
    ·exact h x hx
 exact gen l [] (by simp)
def b4E (l:List c9):(a0B l).length<=l.length:=by
 have h:=congrArg List.length (a9U l);have h2:=a2k sLt (l.map c9.Name) [];simp only [q1W,V8] at h h2;omega
set_option maxHeartbeats 40000000
attribute [local irreducible] RM
def b1E (a:Int):spZ 204 [(true,[.i .i64 a,.sl false a2n []])] [] (.one (true,[.i .i64 ((⟨a,[]⟩:f7).Arity),kFRow ((⟨a,[]⟩:f7).Rows)])):=by
 refine sx' false true none Tryz.func204 (q' 1 [ao (.box 2 (.t 0)),aw [.i .i64,.sl a2n]] (q' 5 [aG 0 1,ao (.bld [.i .i64,.sl a2n] [(0,1,.t 6)]),ax (w' 3 [.i .i64,.sl a2n]),aS 2 3 7] (.seq (q' 8 [aG 1 1,aN,aK 0] (.block 0 (.loop (q' 12 [ar 11 10] (.seq (.cond (.t 12) .skip (.exit 0)) (.seq (.block 1 (q' 13 [am 11,aV 4] (rm' [(true,2,f' 16 1 1),(true,3,l' 17 16),(true,4,m' 18 4),(true,5,i' 19 1 17 18),(true,6, e' 20 1 19),(false,0,f' 14 1 3),(false,1,l' 15 14),(false,7,c' 21 270 [20]),(false,8,o' 22 (.bsl 1 1 [.sl c4R] [(0,.t 21)])), (false,9,o' 23 (.app 1 24 [.sl c4R] (.t 15) (.t 22))),(false,10,f' 24 1 3),(false,11,s' 1 24 23)] [[0,1,2,3,4,5,7,6,8,9,10, 11],[0,1,2,3,4,5,7,8,6,9,10,11],[0,1,2,3,4,7,5,6,8,9,10,11],[0,1,2,3,4,7,5,8,6,9,10,11],[0,1,2,3,4,7,8,5,6,9, 10,11]] [2,3]))) (g' 25 [aA 11]))))))) (q' 26 [ae 2 3,aS 2 2 26] .ret)))) [.c 2 true 2] [] ?_;intro hb hE;simp only [go_sem];(repeat' first|apply cj'|intro hc|apply a2p);(all_goals (try ((first|refine a1r 5 rfl ?_);intro S hS B0 hB;simp only [go_sem,q0I,q1Q] at hS hB;(repeat (first|replace hS:=And.right hS|replace hS:=CJ.r hS));have Rr1:=congrArg (fun s:St=>s.sl 1) hS;have Rr3:=congrArg (fun s:St=>s.sl 3) hS;have Rr4:=congrArg (fun s:St=>s.sl 4) hS;have Rb2:=congrArg (fun s:St=>s.bx 2) hS;have Rb3:=congrArg (fun s:St=>s.bx 3) hS;have Rb4:=congrArg (fun s:St=>s.bx 4) hS;have Rb6:=congrArg (fun s:St=>s.bx 6) hS;clear hS;simp only [go_sem] at Rr1 Rr3 Rr4 Rb2 Rb3 Rb4 Rb6;(try clear hc);intro K hc;simp only [go_sem,Rr1,Rr3,Rr4,Rb2,Rb3,Rb4,Rb6,hB,q0E,q1I,q0K,q0T] at hc ⊢;simp only [go_sem,Rr1,Rr3,Rr4,Rb2,Rb3,Rb4,Rb6,hB,A7d,A7h,A6v,A6u,A7c,A6t,nf_put_sub,A7f,A7e,nf_put_susK,nf_put_dip,nf_put_put,A7g,A7b,A6w,u0,t8,t6,t7,t9,nf_sub_sub] at hc ⊢;simp only [hc,q1R,q0Q];done)));all_goals try exact om'
 refine lq' false [1,2,3,10] [2,4,3] [] (fun i:Unit=>[(11,slV (.i .i64 0))]) (fun i=>[(6,[.c (.i .i64 a),.nl a2n])]) nl' (fun i=>0) () ?_;intro S0 hS0 i;simp only [go_sem,hS0];(repeat' first|apply cj'|intro hc|apply a2p);(all_goals (try ((first|refine a1r 5 rfl ?_);intro S hS B0 hB;simp only [go_sem,hS0,q0I,q1Q] at hS hB;(repeat (first|replace hS:=And.right hS|replace hS:=CJ.r hS));have Rr1:=congrArg (fun s:St=>s.sl 1) hS;have Rr3:=congrArg (fun s:St=>s.sl 3) hS;have Rr4:=congrArg (fun s:St=>s.sl 4) hS;have Rb2:=congrArg (fun s:St=>s.bx 2) hS;have Rb3:=congrArg (fun s:St=>s.bx 3) hS;have Rb4:=congrArg (fun s:St=>s.bx 4) hS;have Rb6:=congrArg (fun s:St=>s.bx 6) hS;clear hS;simp only [go_sem,hS0] at Rr1 Rr3 Rr4 Rb2 Rb3 Rb4 Rb6;(try clear hc);intro K hc;simp only [go_sem,hS0,Rr1,Rr3,Rr4,Rb2,Rb3,Rb4,Rb6,hB,q0E,q1I,q0K,q0T] at hc ⊢;simp only [go_sem,hS0,Rr1,Rr3,Rr4,Rb2,Rb3,Rb4,Rb6,hB,A7d,A7h,A6v,A6u,A7c,A6t,nf_put_sub,A7f,A7e,nf_put_susK,nf_put_dip,nf_put_put,A7g,A7b,A6w,u0,t8,t6,t7,t9,nf_sub_sub] at hc ⊢;simp only [hc,q1R,q0Q];done)));all_goals try exact om'
 all_goals first
  | (exfalso;simp at hc;done)
  | (exfalso;simp at *;done)
  | trace_state
noncomputable def a4U:CT:=j6 (fun (x:Int)=>b1E x)
@[go_sem] def c1M:=fun a=>nm' (fQ' a4U rfl a)
def c8m (n x:List UInt8):(Op.bytesLess n x || n==x)=!sLt x n:=by
 cases h1:Op.bytesLess n x with
 | true=>
   cases h2:sLt x n with
   | true=>have h3:=a3R _ _ _ h1 h2;rw [a5j] at h3;cases h3
   | false=>rfl
 | false=>
   cases h2:sLt x n with
   | true=>
     have:(n==x)=false:=beq_eq_false_iff_ne.2 fun e=>by subst e;have h3:sLt n n=false:=a5j n;rw [h3] at h2;cases h2
     rw [this];rfl
   | false=>rw [a3t _ _ h1 h2];simp
def b7H {n:List UInt8} {v x:d6} {q1:List d6} {q2:Bool} (h:q2=false/\(Op.bytesLess n x.Name=true\/(n==x.Name)=true)):a1w n v (q1,q2) x=(q1++[v]++(bif x.Name==n then [] else [x]),true):=by
 have h2:(!sLt x.Name n)=true:=by rw [<- c8m,q1G];exact h.2
 rw [a1w,h.1,h2];rfl
def c1l {n:List UInt8} {v x:d6} {q1:List d6} {q2:Bool} (h:(!q2&&(Op.bytesLess n x.Name || n==x.Name))=false):a1w n v (q1,q2) x=(q1++(bif x.Name==n then [] else [x]),q2):=by
 rw [c8m] at h;rw [a1w,h,W4];cases q2 with
 | true=>rfl
 | false=>
   have h2:(!sLt x.Name n)=false:=by simpa using h
   rw [h2];rfl
def b7n (n:List UInt8) (v:d6):∀ (l q:List d6) (b:Bool),(l.foldl (a1w n v) (q,b)).1.length<=q.length+2 * l.length
 | [],q,b=>by simp
 | x::l,q,b=>by
   rw [q2C];have h:=b7n n v l (a1w n v (q,b) x).1 (a1w n v (q,b) x).2;have h2:(a1w n v (q,b) x).1.length<=q.length+2:=by
    simp only [a1w];cases !b&&!sLt x.Name n<;>cases x.Name==n<;>simp<;>omega
   have e:((a1w n v (q,b) x).1,(a1w n v (q,b) x).2)=a1w n v (q,b) x:=rfl;rw [e] at h;simp only [W7];omega
def a5u {x:d6} (h:x.Rel.Rows=[]):d6.cells false false x=[.s x.Name,.i .i64 x.Rel.Arity,.sl false a2n []]:=by
 cases x with
 | mk a b=>
   cases b with
   | mk c d=>cases h;rfl
def b6B (s:f8) (n:List UInt8) (r:f7) (hpre:((∀ x∈s.Rels,x.Rel.Rows=[])/\r.Rows=[])/\s.Rels.length<=1000):spZ 105 [(true,[a7q s.Rels]),(false,[.s n]),(true,[.i .i64 r.Arity,kFRow r.Rows])] [] (.one (true,[a7q ((⟨b1Q s.Rels n ⟨n,⟨r.Arity,[]⟩⟩⟩:f8).Rels)])):=by
 refine sx' false true none Tryz.func105 (q' 5 [ax (o' 3 (.box 1 (.t 0))),ao (.box 2 (.t 2)),aw [.sl a4p]] (q' 7 [ax (o' 10 (.bld [.sl a4p] [])),aw [.sl a4p],aS 1 7 10] (q' 0 [ab 8 false] (.seq (q' 11 [aG 0 3,aN,aK 0] (.block 0 (.loop (q' 15 [ar 14 13] (.seq (.cond (.t 15) .skip (.exit 0)) (.seq (.block 1 (q' 16 [am 14,aV 9] (.seq (q' 17 [am 8,ao (.not (.t 17)),am 18,au (.mov (.t 1)) 19 true,au (.fa 0 (.t 3)) 19 true,au (.ld false 1 (.t 21)) 19 true,au (.mov (.t 9)) 19 true,au (.ia 3 (.t 22) (.t 23)) 19 true,au (.fa 0 (.t 24)) 19 true,au (.ld false 1 (.t 25)) 19 true,au (.bin .leq (.t 20) (.t 26)) 19 true,ao (.pick (.t 19) (.t 27) (bb false))] (.cond (.t 28) (.seq (rm' [(true,2,m' 31 1),(true,3,e' 32 2 5),(false,0,f' 29 0 7),(false,1,l' 30 29),(false,4,c' 33 204 [32]), (false,5,o' 34 (.bld [.s,.i .i64,.sl a2n] [(0,1,.t 31),(1,2,.t 33)])),(false,6,o' 35 (.bsl 3 1 [.s,.i .i64,.sl a2n] [(0,.t 34)])),(false,7,o' 36 (.app 3 48 [.s,.i .i64,.sl a2n] (.t 30) (.t 35))),(false, 8,f' 37 0 7),(false,9,s' 1 37 36)] [[0,1,2,4,3,5,6,7,8,9],[0,1,2,4,5,3,6,7,8,9],[0,1,2,4,5,6,3,7,8,9],[0,1,4,2,3,5,6, 7,8,9],[0,1,4,2,5,3,6,7,8,9],[0,1,4,2,5,6,3,7,8,9],[0,1,4,5,2,3,6,7,8,9],[0,1,4,5,2,6,3,7,8,9],[0,1,4,5,6,2, 3,7,8,9]] [10,11]) (g' 0 [ab 8 true])) .skip)) (q' 38 [aG 0 3,am 9,aI 3,aG 0 41,am 1,ao (.bin .neq (.t 43) (.t 44))] (.cond (.t 45) (rm' [(true,2,f' 48 0 3),(true,3,l' 49 48),(true,4,m' 50 9),(true,5,i' 51 3 49 50),(true,6,f' 52 0 51),(true,7,l' 53 52),(true,8,f' 54 0 3),(true,9,l' 55 54),(true,10,m' 56 9),(true,11,i' 57 3 55 56),(true,12,f' 58 1 57),(true,13,e' 59 2 58),(false,0,f' 46 0 7),(false,1,l' 47 46),(false,14, c' 60 204 [59]),(false,15,o' 61 (.bld [.s,.i .i64,.sl a2n] [(0,1,.t 53),(1,2,.t 60)])),(false,16,o' 62 (.bsl 3 1 [.s,.i .i64,.sl a2n] [(0,.t 61)])),(false,17,o' 63 (.app 3 48 [.s,.i .i64,.sl a2n] (.t 47) (.t 62))),(false,18,f' 64 0 7),(false,19,s' 1 64 63)] [[0,1,2,3,4,5,6,7,8,9,10,11,12,14,13,15,16,17,18,19],[0,1,2,3,4,5,6,7, 8,9,10,11,12,14,15,13,16,17,18,19],[0,1,2,3,4,5,6,7,8,9,10,11,12,14,15,16,13,17,18,19],[0,1,2,3,4,5,6,7,8,9,10,11, 14,12,13,15,16,17,18,19],[0,1,2,3,4,5,6,7,8,9,10,11,14,12,15,13,16,17,18,19],[0,1,2,3,4,5,6,7,8,9,10,11,14,12,15, 16,13,17,18,19],[0,1,2,3,4,5,6,7,8,9,10,11,14,15,12,13,16,17,18,19],[0,1,2,3,4,5,6,7,8,9,10,11,14,15,12,16,13,17, 18,19],[0,1,2,3,4,5,6,7,8,9,10,11,14,15,16,12,13,17,18,19]] [6,7]) .skip))))) (g' 65 [aA 14]))))))) (.seq (q' 66 [am 8,ao (.not (.t 66))] (.cond (.t 67) (rm' [(true,2,m' 70 1),(true,3,e' 71 2 5),(false,0,f' 68 0 7),(false,1,l' 69 68),(false,4,c' 72 204 [71]),(false,5,o' 73 (.bld [.s,.i .i64,.sl a2n] [(0,1,.t 70),(1,2,.t 72)])),(false,6,o' 74 (.bsl 3 1 [.s,.i .i64,.sl a2n] [(0,.t 73)])),(false,7,o' 75 (.app 3 48 [.s,.i .i64,.sl a2n] (.t 69) (.t 74))),(false,8,f' 76 0 7), (false,9,s' 1 76 75)] [[0,1,2,4,3,5,6,7,8,9],[0,1,2,4,5,3,6,7,8,9],[0,1,2,4,5,6,3,7,8,9],[0,1,4,2,3,5,6,7,8,9],[0, 1,4,2,5,3,6,7,8,9],[0,1,4,2,5,6,3,7,8,9],[0,1,4,5,2,3,6,7,8,9],[0,1,4,5,2,6,3,7,8,9],[0,1,4,5,6,2,3,7,8,9]] [10,11]) .skip)) (q' 77 [ae 1 7,aS 1 6 77] .ret)))))) [.c 6 true 1] [(204,[],a4U)] ?_;intro hb hE;obtain ⟨⟨hz,hr⟩,hlen⟩:=hpre;have hgz:∀ i,(s.Rels.getD i default).Rel.Rows=[]:=fun i=>by
  by_cases h:i < s.Rels.length
  ·exact hz _ (A3w h)
  ·rw [show s.Rels.getD i default=default by simp [List.getD,q3D (by omega:s.Rels.length<=i)]];rfl
 simp only [go_sem,hr,hgz];(repeat' first|apply cj'|intro hc|apply a2p);(all_goals (try ((first|refine a1r 12 rfl ?_|refine a1r 2 rfl ?_);intro S hS B0 hB;simp only [go_sem,hr,hgz,q0I,q1Q] at hS hB;(repeat (first|replace hS:=And.right hS|replace hS:=CJ.r hS));have Rr7:=congrArg (fun s:St=>s.sl 7) hS;have Rr31:=congrArg (fun s:St=>s.sl 31) hS;have Rr32:=congrArg (fun s:St=>s.sl 32) hS;have Rr53:=congrArg (fun s:St=>s.sl 53) hS;have Rr59:=congrArg (fun s:St=>s.sl 59) hS;have Rr70:=congrArg (fun s:St=>s.sl 70) hS;have Rr71:=congrArg (fun s:St=>s.sl 71) hS;have Rb6:=congrArg (fun s:St=>s.bx 6) hS;have Rb7:=congrArg (fun s:St=>s.bx 7) hS;have Rb10:=congrArg (fun s:St=>s.bx 10) hS;have Rb11:=congrArg (fun s:St=>s.bx 11) hS;have Rb14:=congrArg (fun s:St=>s.bx 14) hS;have Ro200028:=congrArg (fun s:St=>s.ow 200028) hS;have Ro4608:=congrArg (fun s:St=>s.ow 4608) hS;clear hS;simp only [go_sem,hr,hgz] at Rr7 Rr31 Rr32 Rr53 Rr59 Rr70 Rr71 Rb6 Rb7 Rb10 Rb11 Rb14 Ro200028 Ro4608;(try clear hc);intro K hc;simp only [go_sem,hr,hgz,Rr7,Rr31,Rr32,Rr53,Rr59,Rr70,Rr71,Rb6,Rb7,Rb10,Rb11,Rb14,Ro200028,Ro4608,hB,q0E,q1I,q0K,q0T] at hc ⊢;simp only [go_sem,hr,hgz,Rr7,Rr31,Rr32,Rr53,Rr59,Rr70,Rr71,Rb6,Rb7,Rb10,Rb11,Rb14,Ro200028,Ro4608,hB,A7d,A7h,A6v,A6u,A7c,A6t,nf_put_sub,A7f,A7e,nf_put_susK,nf_put_dip,nf_put_put,A7g,A7b,A6w,u0,t8,t6,t7,t9,nf_sub_sub] at hc ⊢;simp only [hc,q1R,q0Q];done)));all_goals try exact om'
 refine lk' false [(true,14,0,200028)] [1,3,5,6,7,13] [6,10,12,7,11] [] (fun i:{i:Nat // i<=s.Rels.length}=>[(8,slV (.b (a8l n ⟨n,⟨r.Arity,[]⟩⟩ (s.Rels.take i.1)).2)),(14,slV (.i .i64 i.1))]) (fun i=>[(14,[.ow 200028])]) (fun i=>[(200028,a4p,((a8l n ⟨n,⟨r.Arity,[]⟩⟩ (s.Rels.take i.1)).1).map (d6.cells false false))]) (fun i=>s.Rels.length - i.1) (⟨0,by simp⟩) ?_;intro S0 hS0 i;obtain ⟨i,hi⟩:=i;generalize hfo:a8l n ⟨n,⟨r.Arity,[]⟩⟩ (s.Rels.take i)=q;obtain ⟨q1,q2⟩:=q;have hql:q1.length<=2 * i:=by
  have h:=b7n n ⟨n,⟨r.Arity,[]⟩⟩ (s.Rels.take i) [] false;rw [show (s.Rels.take i).foldl (a1w n ⟨n,⟨r.Arity,[]⟩⟩) ([],false)=(q1,q2) from hfo] at h;rw [q0L] at h;simp only [V8] at h;omega
 simp only [go_sem,hr,hgz,hS0,hfo];(repeat' first|apply cj'|intro hc|apply a2p);(all_goals (try ((first|refine a1r 12 rfl ?_|refine a1r 2 rfl ?_);intro S hS B0 hB;simp only [go_sem,hr,hgz,hS0,hfo,q0I,q1Q] at hS hB;(repeat (first|replace hS:=And.right hS|replace hS:=CJ.r hS));have Rr7:=congrArg (fun s:St=>s.sl 7) hS;have Rr31:=congrArg (fun s:St=>s.sl 31) hS;have Rr32:=congrArg (fun s:St=>s.sl 32) hS;have Rr53:=congrArg (fun s:St=>s.sl 53) hS;have Rr59:=congrArg (fun s:St=>s.sl 59) hS;have Rr70:=congrArg (fun s:St=>s.sl 70) hS;have Rr71:=congrArg (fun s:St=>s.sl 71) hS;have Rb6:=congrArg (fun s:St=>s.bx 6) hS;have Rb7:=congrArg (fun s:St=>s.bx 7) hS;have Rb10:=congrArg (fun s:St=>s.bx 10) hS;have Rb11:=congrArg (fun s:St=>s.bx 11) hS;have Rb14:=congrArg (fun s:St=>s.bx 14) hS;have Ro200028:=congrArg (fun s:St=>s.ow 200028) hS;have Ro4608:=congrArg (fun s:St=>s.ow 4608) hS;clear hS;simp only [go_sem,hr,hgz,hS0,hfo] at Rr7 Rr31 Rr32 Rr53 Rr59 Rr70 Rr71 Rb6 Rb7 Rb10 Rb11 Rb14 Ro200028 Ro4608;(try clear hc);intro K hc;simp only [go_sem,hr,hgz,hS0,hfo,Rr7,Rr31,Rr32,Rr53,Rr59,Rr70,Rr71,Rb6,Rb7,Rb10,Rb11,Rb14,Ro200028,Ro4608,hB,q0E,q1I,q0K,q0T] at hc ⊢;simp only [go_sem,hr,hgz,hS0,hfo,Rr7,Rr31,Rr32,Rr53,Rr59,Rr70,Rr71,Rb6,Rb7,Rb10,Rb11,Rb14,Ro200028,Ro4608,hB,A7d,A7h,A6v,A6u,A7c,A6t,nf_put_sub,A7f,A7e,nf_put_susK,nf_put_dip,nf_put_put,A7g,A7b,A6w,u0,t8,t6,t7,t9,nf_sub_sub] at hc ⊢;simp only [hc,q1R,q0Q];done)));all_goals try exact om'
 ·rename_i hy;have hs:=a5w n ⟨n,⟨r.Arity,[]⟩⟩ (l:=s.Rels) (i:=i) (by omega);rw [hfo,b7H hy,hc] at hs;simp only [W5,W4,q0A] at hs
  (refine lpK_n2 (⟨i+1,by omega⟩) _ (by simp only [go_sem,hr,hgz];try rfl) ?_;simp only [go_sem,hr,hgz,hS0,hfo,hs]<;>repeat' first|apply V3|exact on'|fail)
  all_goals first|done|(simp only [q0Y,q0E,q1I,a5u (hgz i),C.freeRs,q0B];first|done|rfl)|trace_state
 ·rename_i hy;have hs:=a5w n ⟨n,⟨r.Arity,[]⟩⟩ (l:=s.Rels) (i:=i) (by omega);rw [hfo,b7H hy,hc] at hs;simp only [W5,W4,q0A] at hs
  (refine lpK_n2 (⟨i+1,by omega⟩) _ (by simp only [go_sem,hr,hgz];try rfl) ?_;simp only [go_sem,hr,hgz,hS0,hfo,hs]<;>repeat' first|apply V3|exact on'|fail)
  all_goals first|done|(simp only [q0Y,q0E,q1I,a5u (hgz i),C.freeRs,q0B];first|done|rfl)|trace_state
 ·rename_i hy;have hs:=a5w n ⟨n,⟨r.Arity,[]⟩⟩ (l:=s.Rels) (i:=i) (by omega);rw [hfo,c1l hy,hc] at hs;simp only [W5,W4,q0A] at hs
  (refine lpK_n2 (⟨i+1,by omega⟩) _ (by simp only [go_sem,hr,hgz];try rfl) ?_;simp only [go_sem,hr,hgz,hS0,hfo,hs]<;>repeat' first|apply V3|exact on'|fail)
  all_goals first|done|(simp only [q0Y,q0E,q1I,a5u (hgz i),C.freeRs,q0B];first|done|rfl)|trace_state
 ·rename_i hy;have hs:=a5w n ⟨n,⟨r.Arity,[]⟩⟩ (l:=s.Rels) (i:=i) (by omega);rw [hfo,c1l hy,hc] at hs;simp only [W5,W4,q0A] at hs
  (refine lpK_n2 (⟨i+1,by omega⟩) _ (by simp only [go_sem,hr,hgz];try rfl) ?_;simp only [go_sem,hr,hgz,hS0,hfo,hs]<;>repeat' first|apply V3|exact on'|fail)
  all_goals first|done|(simp only [q0Y,q0E,q1I,a5u (hgz i),C.freeRs,q0B];first|done|rfl)|trace_state
 ·have hn:¬ i < s.Rels.length:=by omega
  rw [i8 (by omega)] at hfo;rw [b1Q,hfo,hc];simp only [W4];have e2:=a4q false false (q1++[(⟨n,⟨r.Arity,[]⟩⟩:d6)]);rw [q0Y] at e2 ⊢;first|exact e2|rfl
 ·rw [i8 (by omega)] at hfo;rw [b1Q,hfo,hc];rfl
noncomputable def a4A:CT:=u2 (fun (x:f8×(List UInt8)×f7) h=>b6B x.1 x.2.1 x.2.2 h)
@[go_sem] def b1i:=fun x0 n x1 x2=>nm' (fP' a4A rfl (⟨x0⟩,n,⟨x1,x2⟩))
end Go.Aw
namespace Go.Aw
open Go.Proofs
attribute [local irreducible] aft blk lpK retK AW A0d
set_option linter.all false
set_option maxRecDepth 100000
def a2O (l:List d3) (v:List UInt8):Int:=((l.find? fun x=>x.Name==v).map d3.N).getD 0
def a1c (l:List d3) (v:List UInt8):Int:=((l.find? fun x=>x.Name==v).map d3.N).getD (-1)
def b0o {p:c5} (g:Lev) {v:List UInt8}:(v∈vwS p->(lvl p g).find? (fun x=>x.Name==v)=some ⟨v,g v⟩)/\(¬ v∈vwS p->(lvl p g).find? (fun x=>x.Name==v)=none):=by
 unfold lvl;generalize vwS p=V
 induction V with
 | nil=>exact ⟨fun h=>by simp at h,fun _=>rfl⟩
 | cons x V ih=>
   refine ⟨fun h=>?_,fun h=>?_⟩
   ·by_cases e:x=v
    ·subst e;simp
    ·have hv:v∈V:=by
      rcases V5.1 h with h|h
      ·exact absurd h.symm e
      ·exact h
     rw [q0E,List.find?_cons_of_neg (by simpa using e)];exact ih.1 hv
   ·simp only [V5,not_or] at h;rw [q0E,List.find?_cons_of_neg (by simpa using fun e=>h.1 e.symm)];exact ih.2 h.2
def a5f {p:c5} (g:Lev) {v:List UInt8} (h:v∈vwS p):a2O (lvl p g) v=g v:=by rw [a2O,(b0o g).1 h];rfl
def b7q {p:c5} (g:Lev) {v:List UInt8} (h:v∈vwS p):a1c (lvl p g) v=g v:=by rw [a1c,(b0o g).1 h];rfl
def c0N {p:c5} (g:Lev) {v:List UInt8} (h:¬ v∈vwS p):a1c (lvl p g) v=-1:=by rw [a1c,(b0o g).2 h];rfl
def c8o {p:c5} (g:Lev) {v:List UInt8} (h:¬ v∈vwS p):a2O (lvl p g) v=0:=by rw [a2O,(b0o g).2 h];rfl
def lvl_idx {p:c5} {h:List UInt8} (hv:h∈vwS p):∃ m,m < (vwS p).length/\(vwS p).getD m []=h/\(∀ g,a3P (fun y:d3=>y.Name==h) (lvl p g)=(m:Int))/\(∀ g,(lvl p g).getD m default=⟨h,g h⟩)/\∀ g x,(lvl p g).set m ⟨h,x⟩=lvl p (upd g h x):=by
 obtain ⟨m,hm,e⟩:=List.getElem_of_mem hv;have e0:(vwS p).getD m []=h:=by rw [v8 [] hm,e]
 have hg:∀ g,(lvl p g).getD m default=⟨h,g h⟩:=fun g=>by rw [c0T p g hm,e0]
 refine ⟨m,hm,e0,fun g=>?_,hg,fun g x=>?_⟩
 ·refine a0g (d:=default) (by rw [b0p];exact hm) ?_ (by rw [hg];simp);rw [q2L];intro y hy;obtain ⟨j,hj,rfl⟩:=q3E.1 hy;have hj2:j < (vwS p).length:=by rw [b0p] at hj;omega
  have hne:(vwS p)[j]≠h:=fun e2=>by
   have:=(List.getElem_inj (b1W p)).1 (e2.trans e.symm);omega
  simpa [lvl] using hne
 ·have:=c4A p g hm x;rw [e0] at this;exact this
def c6L {p:c5} (hd:∀ j,j < p.Decls.length->s8 p j=false):(vwN p).Nodup:=by
 have h1:(p.Decls.map c9.Name).Nodup:=by
  rw [List.nodup_iff_pairwise_ne,q4K,List.pairwise_iff_getElem];intro i j hi hj hij;have:=b5F hd hj (j:=i) hij;rw [v8 default hi,v8 default hj] at this;exact this
 exact h1.sublist (List.filter_sublist.map _)
def c4Q {p:c5} (h:p8 p=true):(vwS p).length<=16:=by
 have h1:=a2k sLt (vwN p) [];have h2:=b1o (fun d:c9=>d.Kind==3) c9.Name p.Decls;simp only [p8,W1,W9] at h;simp only [V8] at h1;rw [vwS];show _<=16;have h3:(vwN p).length<=p.Decls.length:=h2;omega
def b4Z (l:List d3) (v:List UInt8):spZ 47 [(false,[b3u l]),(false,[.s v])] [] (.one (false,[.i .i64 (a2O l v)])):=by
 refine sy' Tryz.func47 (q' 4 [aK 0] (.seq (q' 7 [am 0,aN,aK 0] (.block 0 (.loop (q' 10 [ar 9 8] (.seq (.cond (.t 10) .skip (.exit 0)) (.seq (.block 1 (q' 11 [ai 2 7 9,aE 2,ax (w' 6 [.s,.i .i64]),aS 2 6 12] (q' 13 [aG 0 6,am 1,ao (.bin .eql (.t 14) (.t 15))] (.cond (.t 16) (q' 17 [aG 1 6,aV 4] .ret) .skip)))) (g' 19 [aA 9]))))))) (q' 4 [aK 0] .ret))) [.t 4] [] ?_;intro hb hE;simp only [go_sem];repeat' first|apply cj'|intro hc|exact om'|fail
 refine lq' false [1,7,8] [] [] (fun i:{i:Nat // i<=l.length/\(l.take i).any (fun d=>d.Name==v)=false}=>[(9,slV (.i .i64 i.1))]) nl' nl' (fun i=>l.length - i.1) (⟨0,by simp⟩) ?_;intro S0 hS0 i;obtain ⟨i,hi,ha⟩:=i;simp only [go_sem,hS0];repeat' first|apply cj'|intro hc|exact om'|fail
 ·rw [a2O,b8o (d:=default) (i:=i) (by omega) ha hc];rfl
 ·exact nx0 ⟨i+1,by omega,t2 (p:=fun d:d3=>d.Name==v) default (by omega) ha hc⟩
 ·rw [a2O,a7o (by rwa [i8 (by omega)] at ha)];rfl
noncomputable def a6F:CT:=j6 (fun (x:(List d3)×(List UInt8))=>b4Z x.1 x.2)
@[go_sem] def c3Q:=fun l v=>nm' (fQ' a6F rfl (l,v))
def b2V (x:d3) (r:c6):spZ 45 [(true,[.s x.Name,.i .i64 x.N]),(false,[.p [.i .i64 r.Kind,.s r.Head.Name,m0 r.Head.Args,a0W r.Body]])] [] (.one (false,[.b (x.Name==r.Head.Name)])):=by
 refine sy' Tryz.func45 (q' 0 [ax (o' 2 (.box 2 (.t 0))),ab 3 false] (q' 4 [aG 0 2,af 1 1,aG 0 6,ao (.bin .eql (.t 5) (.t 8)),aV 3] .ret)) [.t 3] [] ?_;intro hb hE;simp only [go_sem];repeat' first|apply cj'|intro hc|exact om'|fail
 all_goals (first|rfl)
noncomputable def a5J:CT:=j6 (fun (x:d3×c6)=>b2V x.1 x.2)
@[go_sem] def c2C:=fun x0 x1 x2 x3 x4 x5=>nm' (fQ' a5J rfl (⟨x0,x1⟩,⟨x2,⟨x3,x4⟩,x5⟩))
def b8y (l:List d3) (r:c6):spZ 44 [(false,[b3u l]),(false,[.f 45 [.p [.i .i64 r.Kind,.s r.Head.Name,m0 r.Head.Args,a0W r.Body]]])] [] (.one (false,[.i .i64 (a3P (fun y:d3=>y.Name==r.Head.Name) l)])):=by
 refine sy' Tryz.func44 (q' 4 [aK 0] (.seq (q' 6 [am 0,aN,aK 0] (.block 0 (.loop (q' 9 [ar 8 7] (.seq (.cond (.t 9) .skip (.exit 0)) (.seq (.block 1 (q' 10 [am 8,aV 5] (q' 11 [aM [1,0,5],aI 2,aE 2,ao (.callv (.t 11) [.t 15])] (.cond (.t 16) (q' 17 [am 5,aV 4] .ret) .skip)))) (g' 18 [aA 8]))))))) (q' 4 [ao (.mov (.k (.v false [.c (.i .i64 (-1))])))] .ret))) [.t 4] [(45,[],a5J)] ?_;intro hb hE;simp only [go_sem];repeat' first|apply cj'|intro hc|exact om'|fail
 refine lq' false [0,1,7] [] [] (fun i:{i:Nat // i<=l.length/\(l.take i).any (fun y:d3=>y.Name==r.Head.Name)=false}=>[(8,slV (.i .i64 i.1))]) nl' nl' (fun i=>l.length - i.1) (⟨0,by simp⟩) ?_;intro S0 hS0 i;obtain ⟨i,hi,ha⟩:=i;simp only [go_sem,hS0];repeat' first|apply cj'|intro hc|exact om'|fail
 ·exact (a0g (p:=fun y:d3=>y.Name==r.Head.Name) (d:=default) (by omega) ha (by simpa [-List.getD_eq_getElem?_getD] using hc)).symm
 ·exact nx0 ⟨i+1,by omega,t2 (p:=fun y:d3=>y.Name==r.Head.Name) default (by omega) ha (by simpa [-List.getD_eq_getElem?_getD] using hc)⟩
 ·exact (y6 (by rwa [i8 (by omega)] at ha)).symm
noncomputable def a9H:CT:=j6 (fun (x:(List d3)×c6)=>b8y x.1 x.2)
@[go_sem] def c6R:=fun l x0 x1 x2 x3=>nm' (fQ' a9H rfl (l,⟨x0,⟨x1,x2⟩,x3⟩))
def c0m (l:List c9):List d3:=(l.filter fun d=>d.Kind==3).map fun d=>⟨d.Name,0⟩
def c7T (l:List c9):(c0m l).length<=l.length:=b1o _ _ _
def c6b {p:c5} (hd:∀ j,j < p.Decls.length->s8 p j=false):b8V (c0m p.Decls)=lvl p fun _=>0:=by
 have e:c0m p.Decls=(vwN p).map fun v=>(⟨v,0⟩:d3):=by rw [vwN,q3L];rfl
 rw [e,c1j (c6L hd)];rfl
def a7r {p:c5} {g g3:Lev} {r:c6} {l:c7} {j:Nat} (hr:r∈p.Rules) (hv:r.Head.Name∈vwS p) (hl:l∈r.Body) (hk:l.Kind≠3) (hb:l.Atom.Name∈vwS p) (hL:Low p g3) (ho:∀ v∈vwS p,v≠r.Head.Name->g3 v<=(vwS p).length) (hh:g3 r.Head.Name<=(vwS p).length+j) (hj:j<=300) {x:Int} (hx:x=g3 l.Atom.Name+a7h l) (hlt:g3 r.Head.Name < x) (hM:a2R p g3<=a2R p g):
  Low p (upd g3 r.Head.Name x)/\(∀ v∈vwS p,v≠r.Head.Name->upd g3 r.Head.Name x v<=(vwS p).length)/\upd g3 r.Head.Name x r.Head.Name<=(vwS p).length+(j+1:Nat)/\a2R p (upd g3 r.Head.Name x) < a2R p g:=by
 have hn:a7h l<=1:=by unfold a7h;split<;>omega
 have hb2:g3 l.Atom.Name<=(vwS p).length+j:=by
  by_cases e:l.Atom.Name=r.Head.Name
  ·rw [e];exact hh
  ·have:=ho _ hb e;omega
 refine ⟨by rw [hx];exact hL.up hr hv hl hk hb,fun v hv2 hne=>?_, ?_, ?_⟩
 ·rw [upd,if_neg hne];exact ho v hv2 hne
 ·rw [upd,if_pos rfl];omega
 ·have:=lsum_lt (g:=g3) (n:=x) hv hlt (by omega);omega
def b7s {p:c5} {g:Lev} {h:List UInt8} {l:c7} (hk:(l.Kind==3)=true):a2Q p g h l:=fun h=>absurd (by simpa using hk) h
def b7t {p:c5} {g:Lev} {h:List UInt8} {l:c7} (hk:¬ l.Atom.Name∈vwS p):a2Q p g h l:=fun _ h=>absurd h hk
def c3j {p:c5} {g:Lev} {h:List UInt8} {l:c7} {x:Int} (hx:x=g l.Atom.Name+a7h l) (hn:¬ g h < x):a2Q p g h l:=fun _ _=>by omega
def b5G {l:c7} (h:(l.Kind==2)=true):a7h l=1:=by rw [a7h,if_pos (by simpa using h)]
def b8O {l:c7} (h:(l.Kind==2)=false):a7h l=0:=by rw [a7h,if_neg (by simpa using h)]
def b6k (p:c5):spZ 11 [(true,[o8 p.Decls,n7 p.Rules])] [] (.tup [(false,[kTLevel ((a0l p).1)]),(false,[.b ((a0l p).2)])]):=by
 refine sy' Tryz.func11 (q' 1 [ao (.box 2 (.t 0)),ao (.mov (.k (.v false [.nl a0s]))),ao (.mov (bb false))] (.seq (q' 14 [ae 2 1,ac 39 [14],ao (.not (.t 15))] (.cond (.t 16) (q' 0 [ax (o' 2 (.mov (.k (.v false [.nl a0s])))),ab 3 false] .ret) .skip)) (q' 17 [ao (.bsl 2 0 [.s,.i .i64] []),aV 4] (.seq (q' 18 [aG 0 1,aN,aK 0] (.block 0 (.loop (q' 22 [ar 21 20] (.seq (.cond (.t 22) .skip (.exit 0)) (.seq (.block 1 (q' 23 [ai 3 19 21,aE 3,ax (w' 6 [.i .i64,.s,.i .i64]),aS 3 6 24] (q' 25 [aG 0 6,ao (.bin .eql (.t 26) (k' 3))] (.cond (.t 27) (g' 28 [am 4,aG 1 6,ao (.bld [.s,.i .i64] [(0,1,.t 30)]),ao (.bsl 2 1 [.s, .i .i64] [(0,.t 31)]),ao (.app 2 24 [.s,.i .i64] (.t 28) (.t 32)),aV 4]) .skip)))) (g' 34 [aA 21]))))))) (q' 35 [am 4,ao (.call 40 [.t 35,.k (.v false [.c (.f 41 [])])])] (.seq (q' 0 [ab 7 true] (.block 2 (.loop (.seq (q' 37 [am 7] (.cond (.t 37) .skip (.exit 2))) (.block 3 (q' 0 [ab 7 false] (q' 38 [aG 1 1,aN,aK 0] (.block 4 (.loop (q' 42 [ar 41 40] (.seq (.cond (.t 42) .skip (.exit 4)) (.seq (.block 5 (q' 43 [ai 4 39 41,aE 4,ax (w' 9 [.i .i64,.s,.sl j4,.sl a2t]),aS 4 9 44] (.seq (q' 45 [ae 2 1,ae 4 9,ac 43 [45,46],ao (.not (.t 47))] (.cond (.t 48) (.exit 5) .skip)) (q' 49 [am 4,ao (.mf 45 [.t 9]),ac 44 [49,50],aV 10] (.seq (q' 52 [aG 3 9,aN,aK 0] (.block 6 (.loop (q' 56 [ar 55 54] (.seq (.cond (.t 56) .skip (.exit 6)) (.seq (.block 7 (q' 57 [ai 10 53 55,aE 10,ax (w' 12 [.i .i64,.s, .sl j4,.i .i64,.s,.i .i64,.s,.s,.i .i64,.s]),aS 10 12 58] (.seq (q' 59 [aG 0 12,ao (.bin .eql (.t 60) (k' 3)),am 61,au (.ld true 2 (.t 1)) 62 false,au (.fa 1 (.t 12)) 62 false,au (.fa 0 (.t 64)) 62 false,au (.ld false 1 (.t 65)) 62 false,au (.call 46 [.t 63,.t 66]) 62 false,au (.bin .neq (.t 67) (k' 3)) 62 false,ao (.pick (.t 62) (bb true) (.t 68))] (.cond (.t 69) (.exit 7) .skip)) (q' 70 [am 4,af 1 12,aG 0 71,ac 47 [70,73],aV 13] (.seq (q' 75 [aG 0 12,ao (.bin .eql (.t 76) (k' 2))] (.cond (.t 77) (g' 78 [aB 13]) .skip)) (q' 80 [aM [4,10],aI 2,aG 1 82,am 13,ar 84 85] (.cond (.t 86) (q' 87 [aM [4,10,13],ai 2 87 88,aF 1,aS 1 91 89] (g' 0 [ab 7 true])) .skip))))))) (g' 92 [aA 55]))))))) (q' 93 [aM [4,10],aI 2,aG 1 95,am 4,aN,ao (.bin .gtr (.t 97) (.t 99))] (.cond (.t 100) (q' 0 [ax (o' 2 (.mov (.k (.v false [.nl a0s])))),ab 3 false] .ret) .skip))))))) (g' 101 [aA 41]))))))))))))) (q' 102 [am 4,aV 2,ab 3 true] .ret))))))) [.t 2,.t 3] [(39,[],a4d),(40,[0],b7c),(43,[],a4c),(44,[],a9H),(46,[],a0T),(47,[],a6F)] ?_;intro hb hE;simp only [go_sem];repeat' first|apply cj'|intro hc|exact om'|fail
 ·rw [a0l,hc];exact ⟨rfl,rfl⟩
 have hN:((i6 p).1==0)=true:=hc;have hok:=c0W (by simpa using hN);obtain ⟨hB,hD,hRb⟩:=hok;have hdl:p.Decls.length<=16:=by
  have:=hB;simp only [p8,W1,W9] at this;omega
 have hvl:=c4Q hB;clear hc;refine lk' false [(false,4,0,100008)] [1,19,20] [2] [] (fun i:{i:Nat // i<=p.Decls.length}=>[(4,.v false [.ow 100008]),(21,slV (.i .i64 i.1))]) nl' (fun i=>[(100008,a0s,(c0m (p.Decls.take i.1)).map d3.cells)]) (fun i=>p.Decls.length - i.1) (⟨0,by simp⟩) ?_;intro S0 hS0 i;obtain ⟨i,hi⟩:=i;have hl:=c7T (p.Decls.take i);rw [q0L] at hl;simp only [go_sem,hS0];repeat' first|apply cj'|intro hc|exact om'|fail
 ·(refine lpK_n2 (⟨i+1,by omega⟩) _ (by simp only [go_sem];try rfl) ?_;simp only [go_sem,hS0]<;>repeat' first|apply V3|exact on'|fail)
  rw [show c0m (p.Decls.take (i+1))=c0m (p.Decls.take i)++[⟨(p.Decls.getD i default).Name,0⟩] from a8G (p:=fun d:c9=>d.Kind==3) (fun d:c9=>(⟨d.Name,0⟩:d3)) default (by omega) hc];first|done|(rw [q0Y];rfl)|trace_state
 ·(refine lpK_n2 (⟨i+1,by omega⟩) _ (by simp only [go_sem];try rfl) ?_;simp only [go_sem,hS0]<;>repeat' first|apply V3|exact on'|fail)
  rw [show c0m (p.Decls.take (i+1))=c0m (p.Decls.take i) from b4J (p:=fun d:c9=>d.Kind==3) (fun d:c9=>(⟨d.Name,0⟩:d3)) default (by omega) hc]
 rw [i8 (by omega),c6b hD];clear hc hl hi;refine lq' false [1,4] [2] [] (fun i:{q:Bool×Lev // Low p q.2/\(∀ v∈vwS p,q.2 v<=(vwS p).length)/\(q.1=false->Fx p q.2)}=>[(7,slV (.b i.1.1))]) nl' (fun i=>[(100008,a0s,(lvl p i.1.2).map d3.cells)]) (fun i=>2 * a2R p i.1.2+(bif i.1.1 then 1 else 0)) (⟨(true,fun _=>0),Low.zero p,fun v _=>by simp only;omega,by intro h;cases h⟩) ?_;intro S1 hS1 i;obtain ⟨⟨ag,g⟩,hL,hle,hF⟩:=i;simp only at hL hle hF;simp only [go_sem,hS0,hS1];repeat' first|apply cj'|intro hc|exact om'|fail
 ·have hag:=hc;clear hc;refine lq' false [1,4,39,40] [2] [] (fun i:{q:Nat×Bool×Lev // q.1<=p.Rules.length/\Low p q.2.2/\(∀ v∈vwS p,q.2.2 v<=(vwS p).length)/\(q.2.1=false->q.2.2=g/\∀ r∈p.Rules.take q.1,a0n p g r)/\(q.2.1=true->a2R p q.2.2 < a2R p g)}=>[(7,slV (.b i.1.2.1)),(41,slV (.i .i64 i.1.1))]) nl' (fun i=>[(100008,a0s,(lvl p i.1.2.2).map d3.cells)]) (fun i=>p.Rules.length - i.1.1) (⟨(0,false,g),by simp,hL,hle,fun _=>⟨rfl,by simp⟩,by intro h;cases h⟩) ?_;intro S2 hS2 i;obtain ⟨⟨n,ag2,g2⟩,hn,hL2,hle2,hF2,hM2⟩:=i;simp only at hn hL2 hle2 hF2 hM2;simp only [go_sem,hS0,hS1,hS2];repeat' first|apply cj'|intro hc|exact om'|fail
  ·have h3:ag2=false->g2=g/\∀ r∈p.Rules.take (n+1),a0n p g r:=fun h=>by
    refine ⟨(hF2 h).1,fun r hr=>?_⟩;rw [i9 default (by omega),V0,V6] at hr;rcases hr with hr|rfl
    ·exact (hF2 h).2 r hr
    ·intro hv;have hk3:=(a2A hD).2 hv;have hk1:=c3e hRb (by omega) hk3;rw [hk1,hk3] at hc;exact absurd hc (by decide)
   (refine lpK_n2 (⟨(n+1,ag2,g2),by simp only;omega,hL2,hle2,h3,hM2⟩) _ rfl ?_;simp only [go_sem,hS0,hS1,hS2]<;>repeat' first|apply V3|exact on'|fail)
  ·have hk:=hc;have hnl:n < p.Rules.length:=by omega
   clear hc;have hb8:=b9R hB hnl;have hv:(p.Rules.getD n default).Head.Name∈vwS p:=(a2A hD).1 (by simpa using hk.2);obtain ⟨m,hm,hme,hix,hgm,hsm⟩:=lvl_idx hv;have hll:=b0p p;refine lq' false [1,4,10,39,40,41,53,54] [2] [] (fun i:{q:Nat×Bool×Lev // q.1<=(p.Rules.getD n default).Body.length/\Low p q.2.2/\(∀ v∈vwS p,v≠(p.Rules.getD n default).Head.Name->q.2.2 v<=(vwS p).length)/\q.2.2 (p.Rules.getD n default).Head.Name<=(vwS p).length+(q.1:Nat)/\(q.2.1=false->q.2.2=g/\(∀ r∈p.Rules.take n,a0n p g r)/\∀ l∈(p.Rules.getD n default).Body.take q.1,a2Q p g (p.Rules.getD n default).Head.Name l)/\(q.2.1=true->a2R p q.2.2 < a2R p g)}=>[(7,slV (.b i.1.2.1)),(55,slV (.i .i64 i.1.1))]) nl' (fun i=>[(100008,a0s,(lvl p i.1.2.2).map d3.cells)]) (fun i=>(p.Rules.getD n default).Body.length - i.1.1) (⟨(0,ag2,g2),by simp,hL2,fun v hv2 _=>hle2 v hv2,by simp only;have:=hle2 _ hv;omega,fun h=>⟨(hF2 h).1,(hF2 h).2,by simp⟩,hM2⟩) ?_;intro S3 hS3 i;obtain ⟨⟨j,ag3,g3⟩,hj,hL3,ho3,hh3,hF3,hM3⟩:=i;simp only at hj hL3 ho3 hh3 hF3 hM3;have hLb:∀ v,0<=a2O (lvl p g3) v/\a2O (lvl p g3) v<=40:=fun v=>by
    by_cases e:v∈vwS p
    ·rw [a5f g3 e];refine ⟨hL3.ge v, ?_⟩;by_cases e2:v=(p.Rules.getD n default).Head.Name
     ·rw [e2];omega
     ·have:=ho3 v e e2;omega
    ·rw [c8o g3 e];omega
   have hw:∀ v,IntKind.i64.wrap (a2O (lvl p g3) v+1)=a2O (lvl p g3) v+1:=fun v=>by have:=hLb v;exact w64 (by omega) (by omega) (by omega)
   simp only [go_sem,hS0,hS1,hS2,hix,hgm,hsm,hll,hS3,hw];repeat' first|apply cj'|intro hc|exact om'|fail
   ·have h3:ag3=false->g3=g/\(∀ r∈p.Rules.take n,a0n p g r)/\∀ l∈(p.Rules.getD n default).Body.take (j+1),a2Q p g (p.Rules.getD n default).Head.Name l:=fun h=>by
     refine ⟨(hF3 h).1,(hF3 h).2.1,fun l hl=>?_⟩;rw [i9 default (by omega),V0,V6] at hl;rcases hl with hl|rfl
     ·exact (hF3 h).2.2 l hl
     ·rcases hc with hc|hc
      ·exact b7s hc
      ·refine b7t fun hv3=>?_
       rw [(a2A hD).2 hv3] at hc;exact absurd hc (by decide)
    (refine lpK_n2 (⟨(j+1,ag3,g3),by simp only;omega,hL3,ho3,by simp only;omega,h3,hM3⟩) _ rfl ?_;simp only [go_sem,hS0,hS1,hS2,hix,hgm,hsm,hll,hS3,hw]<;>repeat' first|apply V3|exact on'|fail)
   ·have hq:(((p.Rules.getD n default).Body.getD j default).Kind==3)=false/\(a1b p ((p.Rules.getD n default).Body.getD j default).Atom.Name != 3)=false:=by assumption
    have hq2:(((p.Rules.getD n default).Body.getD j default).Kind==2)=true:=by assumption
    have hvv:((p.Rules.getD n default).Body.getD j default).Atom.Name∈vwS p:=(a2A hD).1 (by simpa [bne] using hq.2);have hjl:j < (p.Rules.getD n default).Body.length:=by omega
    have hrm:p.Rules.getD n default∈p.Rules:=A3w hnl;have hlm:((p.Rules.getD n default).Body.getD j default)∈(p.Rules.getD n default).Body:=A3w hjl;have hkk:((p.Rules.getD n default).Body.getD j default).Kind≠3:=fun e=>by have:=hq.1;rw [e] at this;exact absurd this (by decide)
    have e:a2O (lvl p g3) ((p.Rules.getD n default).Body.getD j default).Atom.Name+1=g3 ((p.Rules.getD n default).Body.getD j default).Atom.Name+a7h ((p.Rules.getD n default).Body.getD j default):=by rw [a5f g3 hvv,b5G hq2]
    have hMM:a2R p g3<=a2R p g:=by
     cases hag3:ag3 with
     | true=>exact Nat.le_of_lt (hM3 hag3)
     | false=>rw [(hF3 hag3).1];exact V7 _
    have R:=a7r hrm hv hlm hkk hvv hL3 ho3 hh3 (by omega) e hc hMM
    (refine lpK_n2 (⟨(j+1,true,upd g3 (p.Rules.getD n default).Head.Name (a2O (lvl p g3) ((p.Rules.getD n default).Body.getD j default).Atom.Name+1)),by simp only;omega,R.1,R.2.1,R.2.2.1,fun h=>(by cases h),fun _=>R.2.2.2⟩) _ rfl ?_;simp only [go_sem,hS0,hS1,hS2,hix,hgm,hsm,hll,hS3,hw]<;>repeat' first|apply V3|exact on'|fail)
   ·have hq:(((p.Rules.getD n default).Body.getD j default).Kind==3)=false/\(a1b p ((p.Rules.getD n default).Body.getD j default).Atom.Name != 3)=false:=by assumption
    have hq2:(((p.Rules.getD n default).Body.getD j default).Kind==2)=true:=by assumption
    have hvv:((p.Rules.getD n default).Body.getD j default).Atom.Name∈vwS p:=(a2A hD).1 (by simpa [bne] using hq.2);have hjl:j < (p.Rules.getD n default).Body.length:=by omega
    have hrm:p.Rules.getD n default∈p.Rules:=A3w hnl;have hlm:((p.Rules.getD n default).Body.getD j default)∈(p.Rules.getD n default).Body:=A3w hjl;have e:a2O (lvl p g3) ((p.Rules.getD n default).Body.getD j default).Atom.Name+1=g3 ((p.Rules.getD n default).Body.getD j default).Atom.Name+a7h ((p.Rules.getD n default).Body.getD j default):=by rw [a5f g3 hvv,b5G hq2]
    have h3:ag3=false->g3=g/\(∀ r∈p.Rules.take n,a0n p g r)/\∀ l∈(p.Rules.getD n default).Body.take (j+1),a2Q p g (p.Rules.getD n default).Head.Name l:=fun h=>by
     refine ⟨(hF3 h).1,(hF3 h).2.1,fun l hl=>?_⟩;rw [i9 default (by omega),V0,V6] at hl;rcases hl with hl|rfl
     ·exact (hF3 h).2.2 l hl
     ·have:=(hF3 h).1;rw [<- this];exact c3j e hc
    (refine lpK_n2 (⟨(j+1,ag3,g3),by simp only;omega,hL3,ho3,by simp only;omega,h3,hM3⟩) _ rfl ?_;simp only [go_sem,hS0,hS1,hS2,hix,hgm,hsm,hll,hS3,hw]<;>repeat' first|apply V3|exact on'|fail)
   ·have hq:(((p.Rules.getD n default).Body.getD j default).Kind==3)=false/\(a1b p ((p.Rules.getD n default).Body.getD j default).Atom.Name != 3)=false:=by assumption
    have hq2:(((p.Rules.getD n default).Body.getD j default).Kind==2)=false:=by assumption
    have hvv:((p.Rules.getD n default).Body.getD j default).Atom.Name∈vwS p:=(a2A hD).1 (by simpa [bne] using hq.2);have hjl:j < (p.Rules.getD n default).Body.length:=by omega
    have hrm:p.Rules.getD n default∈p.Rules:=A3w hnl;have hlm:((p.Rules.getD n default).Body.getD j default)∈(p.Rules.getD n default).Body:=A3w hjl;have hkk:((p.Rules.getD n default).Body.getD j default).Kind≠3:=fun e=>by have:=hq.1;rw [e] at this;exact absurd this (by decide)
    have e:a2O (lvl p g3) ((p.Rules.getD n default).Body.getD j default).Atom.Name=g3 ((p.Rules.getD n default).Body.getD j default).Atom.Name+a7h ((p.Rules.getD n default).Body.getD j default):=by rw [a5f g3 hvv,b8O hq2];omega
    have hMM:a2R p g3<=a2R p g:=by
     cases hag3:ag3 with
     | true=>exact Nat.le_of_lt (hM3 hag3)
     | false=>rw [(hF3 hag3).1];exact V7 _
    have R:=a7r hrm hv hlm hkk hvv hL3 ho3 hh3 (by omega) e hc hMM
    (refine lpK_n2 (⟨(j+1,true,upd g3 (p.Rules.getD n default).Head.Name (a2O (lvl p g3) ((p.Rules.getD n default).Body.getD j default).Atom.Name)),by simp only;omega,R.1,R.2.1,R.2.2.1,fun h=>(by cases h),fun _=>R.2.2.2⟩) _ rfl ?_;simp only [go_sem,hS0,hS1,hS2,hix,hgm,hsm,hll,hS3,hw]<;>repeat' first|apply V3|exact on'|fail)
   ·have hq:(((p.Rules.getD n default).Body.getD j default).Kind==3)=false/\(a1b p ((p.Rules.getD n default).Body.getD j default).Atom.Name != 3)=false:=by assumption
    have hq2:(((p.Rules.getD n default).Body.getD j default).Kind==2)=false:=by assumption
    have hvv:((p.Rules.getD n default).Body.getD j default).Atom.Name∈vwS p:=(a2A hD).1 (by simpa [bne] using hq.2);have hjl:j < (p.Rules.getD n default).Body.length:=by omega
    have hrm:p.Rules.getD n default∈p.Rules:=A3w hnl;have hlm:((p.Rules.getD n default).Body.getD j default)∈(p.Rules.getD n default).Body:=A3w hjl;have e:a2O (lvl p g3) ((p.Rules.getD n default).Body.getD j default).Atom.Name=g3 ((p.Rules.getD n default).Body.getD j default).Atom.Name+a7h ((p.Rules.getD n default).Body.getD j default):=by rw [a5f g3 hvv,b8O hq2];omega
    have h3:ag3=false->g3=g/\(∀ r∈p.Rules.take n,a0n p g r)/\∀ l∈(p.Rules.getD n default).Body.take (j+1),a2Q p g (p.Rules.getD n default).Head.Name l:=fun h=>by
     refine ⟨(hF3 h).1,(hF3 h).2.1,fun l hl=>?_⟩;rw [i9 default (by omega),V0,V6] at hl;rcases hl with hl|rfl
     ·exact (hF3 h).2.2 l hl
     ·have:=(hF3 h).1;rw [<- this];exact c3j e hc
    (refine lpK_n2 (⟨(j+1,ag3,g3),by simp only;omega,hL3,ho3,by simp only;omega,h3,hM3⟩) _ rfl ?_;simp only [go_sem,hS0,hS1,hS2,hix,hgm,hsm,hll,hS3,hw]<;>repeat' first|apply V3|exact on'|fail)
   ·rw [b7r hL3 hv hc];exact ⟨rfl,rfl⟩
   ·have h1:∀ v∈vwS p,g3 v<=(vwS p).length:=fun v hv2=>by
     by_cases e:v=(p.Rules.getD n default).Head.Name
     ·rw [e];omega
     ·exact ho3 v hv2 e
    have h3:ag3=false->g3=g/\∀ r∈p.Rules.take (n+1),a0n p g r:=fun h=>by
     refine ⟨(hF3 h).1,fun r hr=>?_⟩;rw [i9 default (by omega),V0,V6] at hr;rcases hr with hr|rfl
     ·exact (hF3 h).2.1 r hr
     ·intro _ l hl;refine (hF3 h).2.2 l ?_;rw [i8 (by omega)];exact hl
    (refine lpK_n2 (⟨(n+1,ag3,g3),by simp only;omega,hL3,h1,h3,hM3⟩) _ rfl ?_;simp only [go_sem,hS0,hS1,hS2,hix,hgm,hsm,hll,hS3,hw]<;>repeat' first|apply V3|exact on'|fail)
  ·have h3:ag2=false->Fx p g2:=fun h=>by
    have h5:=hF2 h;rw [i8 (by omega)] at h5;rw [h5.1];exact h5.2
   have hmm:ag2=false->g2=g:=fun h=>(hF2 h).1
   (refine lpK_n2 (⟨(ag2,g2),hL2,hle2,h3⟩) _ rfl ?_;simp only [go_sem,hS0,hS1,hS2]<;>repeat' first|apply V3|exact on'|fail)
   cases hag2:ag2 with
   | false=>rw [hmm hag2,hag];simp only [W5,W4];omega
   | true=>have:=hM2 hag2;rw [hag];simp only [W5];omega
 ·rw [b5x hN ⟨hF hc,hL,hle⟩];exact ⟨rfl,rfl⟩
noncomputable def a4v:CT:=j6 (fun (x:c5)=>b6k x)
@[go_sem] def c5E:=fun x0 x1=>nm' (fQ' a4v rfl ⟨x0,x1⟩)
def a4m (p:c5) (k:Int):List c9:=p.Decls.filter fun d=>d.Kind==k
@[go_sem] def l12Set_nil (l:List d6) (n:List UInt8) (a:Int):a4A [(true,[a7q l]),(false,[.s n]),(true,[.i .i64 a,.sl false a2n []])]=some (((∀ x∈l,x.Rel.Rows=[])/\True)/\l.length<=1000,[],.one (true,[a7q (b1Q l n ⟨n,⟨a,[]⟩⟩)])):=by
 have h:=b1i l n a [];simpa using h
def c0s (l:List c9) (d:c9):a0B (l++[d])=b1Q (a0B l) d.Name ⟨d.Name,⟨d.Arity,[]⟩⟩:=by rw [a0B,q3S];rfl
@[go_sem] def emptyN_nil:a0B []=[]:=rfl
def b3l (p:c5) (k:Int) (hpre:p.Decls.length<=16):spZ 48 [(true,[o8 p.Decls,n7 p.Rules]),(false,[.i .i64 k])] [] (.one (true,[a7q ((⟨a0B (a4m p k)⟩:f8).Rels)])):=by
 refine sx' false true none Tryz.func48 (q' 2 [ao (.box 2 (.t 0)),ax (w' 4 [.sl a4p])] (q' 5 [ax (o' 8 (.bld [.sl a4p] [])),aw [.sl a4p],aS 1 5 8] (.seq (q' 9 [aG 0 2,aN,aK 0] (.block 0 (.loop (q' 13 [ar 12 11] (.seq (.cond (.t 13) .skip (.exit 0)) (.seq (.block 1 (q' 14 [ai 3 10 12,aE 3,ax (w' 7 [.i .i64,.s,.i .i64]),aS 3 7 15] (q' 16 [aG 0 7,am 1,ao (.bin .eql (.t 17) (.t 18))] (.cond (.t 19) (g' 20 [ae 1 5,aG 1 7,aG 2 7,ao (.bld [.i .i64,.sl a2n] [(0,1,.t 24)]),ac 105 [20,22,25],aS 1 5 26]) .skip)))) (g' 27 [aA 12]))))))) (q' 28 [ae 1 5,aS 1 4 28] .ret)))) [.c 4 true 1] [(105,[],a4A)] ?_;intro hb hE;simp only [go_sem];repeat' first|apply cj'|intro hc|exact om'|fail
 refine aw_keys false [(true,10,0,200020)] ?_;refine a8E 200020 ?_;refine lq' false [1,4,5,10,11] [8] [] (fun i:{i:Nat // i<=p.Decls.length}=>[(12,slV (.i .i64 i.1))]) (fun i=>[(10,[.c (a7q (a0B ((p.Decls.take i.1).filter fun d=>d.Kind==k)))])]) nl' (fun i=>p.Decls.length - i.1) (⟨0,by simp⟩) ?_;intro S0 hS0 i;obtain ⟨i,hi⟩:=i;have h1:=b4E ((p.Decls.take i).filter fun d=>d.Kind==k);have h2:=q2F (fun d:c9=>d.Kind==k) (p.Decls.take i);have h3:=c0r ((p.Decls.take i).filter fun d=>d.Kind==k);rw [q0L] at h2;simp only [go_sem,hS0];repeat' first|apply cj'|intro hc|exact om'|fail
 all_goals first
  | omega
  | exact h3
  | exact ⟨h3,by omega⟩
  | ((refine lpK_n2 (⟨i+1,by omega⟩) _ rfl ?_;simp only [go_sem,hS0]<;>repeat' first|apply V3|exact on'|fail);rw [f_yes (p:=fun d:c9=>d.Kind==k) default (by omega) hc,c0s];done)
  | ((refine lpK_n2 (⟨i+1,by omega⟩) _ rfl ?_;simp only [go_sem,hS0]<;>repeat' first|apply V3|exact on'|fail);rw [f_no (p:=fun d:c9=>d.Kind==k) default (by omega) hc];done)
  | (rw [i8 (by omega)];rfl)
  | trace_state
noncomputable def a5S:CT:=u2 (fun (x:c5×Int) h=>b3l x.1 x.2 h)
@[go_sem] def c2S:=fun x0 x1 k=>nm' (fP' a5S rfl (⟨x0,x1⟩,k))
end Go.Aw
