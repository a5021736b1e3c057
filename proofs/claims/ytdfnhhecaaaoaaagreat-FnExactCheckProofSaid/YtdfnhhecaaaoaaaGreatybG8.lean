/- Programs: what the functions compute. No condition. -/
import Derived.Test.YtdfnhhecaaaoaaaGreatybG7
import Derived.Test.YtdfnhhecaaaoaaaGreatnBwtyb
namespace Go.Aw
open Go.Proofs
attribute [local irreducible] aft blk lpK retK AW Z9
set_option linter.all false
set_option maxRecDepth 100000
def c3N (s:List UInt8):Bool:=a1s s&&!kept s
def a1D (a:f5):Bool:=c3N a.Name&&decide ((a.Args.length:Int)≤6)&&a.Args.all o5
def c0v (t:c8):Bool:=t.Var==[]&&(t.Val.N==0&&t.Val.S==[])
def a1b (l:d5):Bool:=bif l.Kind==3 then decide (1≤l.Op)&&decide (l.Op≤4)&&l.Atom.Name==[]&&(l.Atom.Args.length:Int)==0&&o5 l.A&&o5 l.B else (l.Kind==1 || l.Kind==2)&&a1D l.Atom&&l.Op==0&&c0v l.A&&c0v l.B
def i9 (r:c6):Bool:=decide (1≤r.Kind)&&decide (r.Kind≤3)&&a1D r.Head&&decide ((r.Body.length:Int)≤8)&&r.Body.all a1b
def a1S (d:d7):Bool:=decide (1≤d.Kind)&&decide (d.Kind≤3)&&c3N d.Name&&(decide (0≤d.Arity)&&decide (d.Arity≤6))
def m9 (p:c4):Bool:=p.Decls.all a1S&&decide ((p.Decls.length:Int)≤16)&&decide ((p.Rules.length:Int)≤24)&&p.Rules.all i9
@[go_sem] def b1f:ACode:=q' 0 [ab 2 false] (q' 3 [am 0,ac 186 [3],am 4,au (.mov (.t 0)) 5 true,au (.call 284 [.t 6]) 5 true,au (.not (.t 7)) 5 true,ao (.pick (.t 5) (.t 8) (bb
 false)),aV 2] .ret)
theorem b4t (s:List UInt8):Z9 Tryz.prog 305 [(false,[.s s])] [] (.one (false,[.b (c3N s)])):=by
 refine sx' false false none Tryz.func305 b1f [.t 2] [(186,[],a1e),(284,[],a4S)] ?_
 intro hb hE
 simp only [go_sem];(repeat' first | apply CJ.mk | intro hc);all_goals try exact om'
 all_goals (first | rfl)
noncomputable def a1Q:CT:=i3 (fun (x:(List UInt8))=>b4t x)
@[go_sem] def c3w:=fun s=>nm' (fQ' a1Q rfl s)
@[go_sem] def b2g:ACode:=q' 0 [ab 2 false] (q' 3 [am 0,ac 159 [3],am 4,au (.mov (.t 0)) 5 true,au (.call 196 [.t 6]) 5 true,au (.not (.t 7)) 5 true,ao (.pick (.t 5) (.t 8) (bb
 false)),aV 2] .ret)
theorem b5L (s:List UInt8):Z9 Tryz.prog 265 [(false,[.s s])] [] (.one (false,[.b (c3N s)])):=by
 refine sx' false false none Tryz.func265 b2g [.t 2] [(159,[],a1d),(196,[],a4q)] ?_
 intro hb hE
 simp only [go_sem];(repeat' first | apply CJ.mk | intro hc);all_goals try exact om'
 all_goals (first | rfl)
noncomputable def a2n:CT:=i3 (fun (x:(List UInt8))=>b5L x)
@[go_sem] def c4E:=fun s=>nm' (fQ' a2n rfl s)
@[go_sem] def a7g:ACode:=q' 0 [ax (o' 1 (.box 2 (.t 0))),ab 2 false] (.seq (q' 5 [aG 0 1,ac 305 [6],ao (.not (.t 7)),am 8,au (.fa 1 (.t 1)) 9 false,au (.ld false 1 (.t 10)) 9 false,au
 (.len (.t 11)) 9 false,au (.bin .gtr (.t 12) (k' 6)) 9 false,ao (.pick (.t 9) (bb true) (.t 13))] (.cond (.t 14) (q' 0 [ab 2 false] .ret) .skip)) (.seq (q' 15
 [aG 1 1,aN,aK 0] (.block 0 (.loop (q' 19 [ar 18 17] (.seq (.cond (.t 19) .skip (.exit 0)) (.seq (.block 1 (q' 20 [ai 3 16 18,aE 3,ax (w' 4 [.s,.i .i64,
 .s]),aS 3 4 21] (q' 22 [ae 3 4,ac 306 [22],ao (.not (.t 23))] (.cond (.t 24) (q' 0 [ab 2 false] .ret) .skip)))) (g' 25 [aA 18]))))))) (q' 0 [ab 2 true]
 .ret)))
theorem a9H (a:f5):Z9 Tryz.prog 181 [(true,[.s a.Name,.sl false [.s [],.i .i64 0,.s []] (a.Args.map c8.cells)])] [] (.one (false,[.b (a1D a)])):=by
 refine sx' false false none Tryz.func181 a7g [.t 2] [(305,[],a1Q),(306,[],a0Y)] ?_
 intro hb hE
 simp only [go_sem];(repeat' first | apply CJ.mk | intro hc);all_goals try exact om'
 ·rcases hc with h | h
  ·rw [a1D,h];rfl
  ·rw [a1D,decide_eq_false (p:=(a.Args.length:Int)≤6) (by omega)];simp
 have hh:=hc
 refine lq' false [16,17] [] [] (fun i:{i:Nat // i≤a.Args.length∧(a.Args.take i).all o5=true}=>[(18,slV (.i .i64 i.1))]) nl' nl' (fun i=>a.Args.length - i.1) (⟨0,by simp⟩) ?_
 intro S0 hS0 i
 obtain ⟨i,hi,ha⟩:=i
 simp only [go_sem,hS0];(repeat' first | apply CJ.mk | intro hc);all_goals try exact om'
 ·rw [a1D,all_false (by omega) hc,Bool.and_false]
 ·exact nx0 ⟨i+1,by omega,v8 default (by omega) ha hc⟩
 ·rw [a1D,all_of_take (by omega) ha,hh.1,decide_eq_true (by omega)];rfl
noncomputable def a0X:CT:=i3 (fun (x:f5)=>a9H x)
@[go_sem] def c0P:=fun x0 x1=>nm' (fQ' a0X rfl ⟨x0,x1⟩)
@[go_sem] def a8Z:ACode:=q' 0 [ax (o' 1 (.box 10 (.t 0))),ab 2 false] (.seq (q' 4 [aG 0 1,ao (.bin .eql (.t 5) (k' 3))] (.cond (.t 6) (q' 7 [aG 3 1,ao (.bin .geq (.t 8) (k' 1)),am 9,au
 (.fa 3 (.t 1)) 10 true,au (.ld false 1 (.t 11)) 10 true,au (.bin .leq (.t 12) (k' 4)) 10 true,ao (.pick (.t 10) (.t 13) (bb false)),am 14,au (.fa 1 (.t 1)) 15
 true,au (.fa 0 (.t 16)) 15 true,au (.ld false 1 (.t 17)) 15 true,au (.bin .eql (.t 18) (.k (.v false [.c (.s [])]))) 15 true,ao (.pick (.t 15) (.t 19) (bb
 false)),am 20,au (.fa 1 (.t 1)) 21 true,au (.fa 1 (.t 22)) 21 true,au (.ld false 1 (.t 23)) 21 true,au (.len (.t 24)) 21 true,au (.bin .eql (.t 25) (k' 0)) 21
 true,ao (.pick (.t 21) (.t 26) (bb false)),am 27,au (.fa 4 (.t 1)) 28 true,au (.ld true 3 (.t 29)) 28 true,au (.call 306 [.t 30]) 28 true,ao (.pick (.t 28)
 (.t 31) (bb false)),am 32,au (.fa 7 (.t 1)) 33 true,au (.ld true 3 (.t 34)) 33 true,au (.call 306 [.t 35]) 33 true,ao (.pick (.t 33) (.t 36) (bb false)),aV 2]
 .ret) .skip)) (q' 3 [ax (o' 38 (.bld [.s,.i .i64,.s] [])),aw [.s,.i .i64,.s],aS 3 3 38] (q' 39 [aG 0 1,ao (.bin .eql (.t 40) (k' 1)),am 41,au (.fa 0 (.t
 1)) 42 false,au (.ld false 1 (.t 43)) 42 false,au (.bin .eql (.t 44) (k' 2)) 42 false,ao (.pick (.t 42) (bb true) (.t 45)),am 46,au (.fa 1 (.t 1)) 47 true,au
 (.ld true 2 (.t 48)) 47 true,au (.call 181 [.t 49]) 47 true,ao (.pick (.t 47) (.t 50) (bb false)),am 51,au (.fa 3 (.t 1)) 52 true,au (.ld false 1 (.t 53)) 52
 true,au (.bin .eql (.t 54) (k' 0)) 52 true,ao (.pick (.t 52) (.t 55) (bb false)),am 56,au (.fa 4 (.t 1)) 57 true,au (.ld true 3 (.t 58)) 57 true,au (.ld true
 3 (.t 3)) 57 true,au (.eqs false [.s,.i .i64,.s] (.t 59) (.t 60)) 57 true,ao (.pick (.t 57) (.t 61) (bb false)),am 62,au (.fa 7 (.t 1)) 63 true,au (.ld true
 3 (.t 64)) 63 true,au (.ld true 3 (.t 3)) 63 true,au (.eqs false [.s,.i .i64,.s] (.t 65) (.t 66)) 63 true,ao (.pick (.t 63) (.t 67) (bb false)),aV 2]
 .ret)))
theorem b1I (l:d5):Z9 Tryz.prog 182 [(true,[.i .i64 l.Kind,.s l.Atom.Name,.sl false [.s [],.i .i64 0,.s []] (l.Atom.Args.map c8.cells),.i .i64 l.Op,.s l.A.Var,.i .i64 l.A.Val.N,.s l.A.Val.S,.s l.B.Var,.i .i64 l.B.Val.N,.s l.B.Val.S])] [] (.one (false,[.b (a1b l)])):=by
 refine sx' false false none Tryz.func182 a8Z [.t 2] [(306,[],a0Y),(181,[],a0X)] ?_
 intro hb hE
 simp only [go_sem];(repeat' first | apply CJ.mk | intro hc);all_goals try exact om'
 ·rw [a1b,hc];rfl
 ·rw [a1b,hc];rfl
noncomputable def a3T:CT:=i3 (fun (x:d5)=>b1I x)
@[go_sem] def c1T:=fun x0 x1 x2 x3 x4 x5 x6 x7 x8 x9=>nm' (fQ' a3T rfl ⟨x0,⟨x1,x2⟩,x3,⟨x4,⟨x5,x6⟩⟩,⟨x7,⟨x8,x9⟩⟩⟩)
@[go_sem] def a7h:ACode:=q' 0 [ax (o' 1 (.box 4 (.t 0))),ab 2 false] (.seq (q' 4 [aG 0 1,ao (.bin .lss (.t 5) (k' 1)),am 6,au (.fa 0 (.t 1)) 7 false,au (.ld false 1 (.t 8)) 7 false,au
 (.bin .gtr (.t 9) (k' 3)) 7 false,ao (.pick (.t 7) (bb true) (.t 10)),am 11,au (.fa 1 (.t 1)) 12 false,au (.ld true 2 (.t 13)) 12 false,au (.call 181 [.t 14])
 12 false,au (.not (.t 15)) 12 false,ao (.pick (.t 12) (bb true) (.t 16)),am 17,au (.fa 3 (.t 1)) 18 false,au (.ld false 1 (.t 19)) 18 false,au (.len (.t 20))
 18 false,au (.bin .gtr (.t 21) (k' 8)) 18 false,ao (.pick (.t 18) (bb true) (.t 22))] (.cond (.t 23) (q' 0 [ab 2 false] .ret) .skip)) (.seq (q' 24 [aG 3
 1,aN,aK 0] (.block 0 (.loop (q' 28 [ar 27 26] (.seq (.cond (.t 28) .skip (.exit 0)) (.seq (.block 1 (q' 29 [am 27,aV 3] (q' 30 [aG 3 1,am 3,aI 10,aE 10,ac 182
 [34],ao (.not (.t 35))] (.cond (.t 36) (q' 0 [ab 2 false] .ret) .skip)))) (g' 37 [aA 27]))))))) (q' 0 [ab 2 true] .ret)))
theorem a9I (r:c6):Z9 Tryz.prog 85 [(true,[.i .i64 r.Kind,.s r.Head.Name,.sl false [.s [],.i .i64 0,.s []] (r.Head.Args.map c8.cells),.sl false [.i .i64 0,.s [],.sl false [.s [],.i .i64 0,.s []] [],.i .i64 0,.s [],.i .i64 0,.s [],.s [],.i .i64 0,.s []] (r.Body.map (d5.cells false false))])] [] (.one (false,[.b (i9 r)])):=by
 refine sx' false false none Tryz.func85 a7h [.t 2] [(182,[],a3T),(181,[],a0X)] ?_
 intro hb hE
 simp only [go_sem];(repeat' first | apply CJ.mk | intro hc);all_goals try exact om'
 ·rcases hc with ((h | h) | h) | h
  ·rw [i9,decide_eq_false (p:=1≤r.Kind) (by omega)];simp
  ·rw [i9,decide_eq_false (p:=r.Kind≤3) (by omega)];simp
  ·rw [i9,h];simp
  ·rw [i9,decide_eq_false (p:=(r.Body.length:Int)≤8) (by omega)];simp
 have hh:=hc
 refine lq' false [1,26] [2] [] (fun i:{i:Nat // i≤r.Body.length∧(r.Body.take i).all a1b=true}=>[(27,slV (.i .i64 i.1))]) nl' nl' (fun i=>r.Body.length - i.1) (⟨0,by simp⟩) ?_
 intro S0 hS0 i
 obtain ⟨i,hi,ha⟩:=i
 simp only [go_sem,hS0];(repeat' first | apply CJ.mk | intro hc);all_goals try exact om'
 ·rw [i9,all_false (by omega) hc,Bool.and_false]
 ·exact nx0 ⟨i+1,by omega,v8 default (by omega) ha hc⟩
 ·rw [i9,all_of_take (by omega) ha,hh.1.2,decide_eq_true (by omega),decide_eq_true (by omega),decide_eq_true (by omega)];rfl
noncomputable def z9:CT:=i3 (fun (x:c6)=>a9I x)
@[go_sem] def c0Q:=fun x0 x1 x2 x3=>nm' (fQ' z9 rfl ⟨x0,⟨x1,x2⟩,x3⟩)
@[go_sem] def a7e:ACode:=q' 0 [ax (o' 1 (.box 2 (.t 0))),ab 2 false] (.seq (q' 6 [aG 0 1,aN,ao (.bin .gtr (.t 8) (k' 16)),am 9,au (.fa 1 (.t 1)) 10 false,au (.ld false 1 (.t 11)) 10
 false,au (.len (.t 12)) 10 false,au (.bin .gtr (.t 13) (k' 24)) 10 false,ao (.pick (.t 10) (bb true) (.t 14))] (.cond (.t 15) (q' 0 [ab 2 false] .ret) .skip))
 (.seq (q' 16 [aG 0 1,aN,aK 0] (.block 0 (.loop (q' 20 [ar 19 18] (.seq (.cond (.t 20) .skip (.exit 0)) (.seq (.block 1 (q' 21 [ai 3 17 19,aE 3,ax (w' 4 [.i
 .i64,.s,.i .i64]),aS 3 4 22] (q' 23 [aG 0 4,ao (.bin .lss (.t 24) (k' 1)),am 25,au (.fa 0 (.t 4)) 26 false,au (.ld false 1 (.t 27)) 26 false,au (.bin .gtr
 (.t 28) (k' 3)) 26 false,ao (.pick (.t 26) (bb true) (.t 29)),am 30,au (.fa 1 (.t 4)) 31 false,au (.ld false 1 (.t 32)) 31 false,au (.call 305 [.t 33]) 31
 false,au (.not (.t 34)) 31 false,ao (.pick (.t 31) (bb true) (.t 35)),am 36,au (.fa 2 (.t 4)) 37 false,au (.ld false 1 (.t 38)) 37 false,au (.bin .lss (.t 39)
 (k' 0)) 37 false,ao (.pick (.t 37) (bb true) (.t 40)),am 41,au (.fa 2 (.t 4)) 42 false,au (.ld false 1 (.t 43)) 42 false,au (.bin .gtr (.t 44) (k' 6)) 42
 false,ao (.pick (.t 42) (bb true) (.t 45))] (.cond (.t 46) (q' 0 [ab 2 false] .ret) .skip)))) (g' 47 [aA 19]))))))) (.seq (q' 48 [aG 1 1,aN,aK 0] (.block 2
 (.loop (q' 52 [ar 51 50] (.seq (.cond (.t 52) .skip (.exit 2)) (.seq (.block 3 (q' 53 [am 51,aV 5] (q' 54 [aG 1 1,am 5,aI 4,aE 4,ac 85 [58],ao (.not (.t 59))]
 (.cond (.t 60) (q' 0 [ab 2 false] .ret) .skip)))) (g' 61 [aA 51]))))))) (q' 0 [ab 2 true] .ret))))
theorem a9E (p:c4):Z9 Tryz.prog 331 [(true,[.sl false [.i .i64 0,.s [],.i .i64 0] (p.Decls.map d7.cells),.sl false [.i .i64 0,.s [],.sl false [.s [],.i .i64 0,.s []] [],.sl false [.i .i64 0,.s [],.sl false [.s [],.i .i64 0,.s []] [],.i .i64 0,.s [],.i .i64 0,.s [],.s [],.i .i64 0,.s []] []] (p.Rules.map (c6.cells false false))])] [] (.one (false,[.b (m9 p)])):=by
 refine sx' false false none Tryz.func331 a7e [.t 2] [(85,[],z9),(305,[],a1Q)] ?_
 intro hb hE
 simp only [go_sem];(repeat' first | apply CJ.mk | intro hc);all_goals try exact om'
 ·rcases hc with h | h
  ·rw [m9,decide_eq_false (p:=(p.Decls.length:Int)≤16) (by omega)];simp
  ·rw [m9,decide_eq_false (p:=(p.Rules.length:Int)≤24) (by omega)];simp
 have hh:=hc
 refine lq' false [1,17,18] [2] [] (fun i:{i:Nat // i≤p.Decls.length∧(p.Decls.take i).all a1S=true}=>[(19,slV (.i .i64 i.1))]) nl' nl' (fun i=>p.Decls.length - i.1) (⟨0,by simp⟩) ?_
 intro S0 hS0 i
 obtain ⟨i,hi,ha⟩:=i
 simp only [go_sem,hS0];(repeat' first | apply CJ.mk | intro hc);all_goals try exact om'
 ·have h:a1S (p.Decls.getD i default)=false:=by clear hb hS0 ha;grind [a1S]
  rw [m9,all_false (by omega) h];rfl
 ·have h:a1S (p.Decls.getD i default)=true:=by clear hb hS0 ha;grind [a1S]
  exact nx0 ⟨i+1,by omega,v8 default (by omega) ha h⟩
 ·have hd:p.Decls.all a1S=true:=all_of_take (by omega) ha
  clear ha
  refine lq' false [1,50] [2] [] (fun i:{i:Nat // i≤p.Rules.length∧(p.Rules.take i).all i9=true}=>[(51,slV (.i .i64 i.1))]) nl' nl' (fun i=>p.Rules.length - i.1) (⟨0,by simp⟩) ?_
  intro S1 hS1 i
  obtain ⟨i,hi,ha⟩:=i
  simp only [go_sem,hS0,hS1];(repeat' first | apply CJ.mk | intro hc);all_goals try exact om'
  ·rw [m9,all_false (l:=p.Rules) (by omega) hc];simp
  ·exact nx1 ⟨i+1,by omega,v8 default (by omega) ha hc⟩
  ·rw [m9,hd,all_of_take (l:=p.Rules) (by omega) ha,decide_eq_true (by omega),decide_eq_true (by omega)];rfl
noncomputable def a0W:CT:=i3 (fun (x:c4)=>a9E x)
@[go_sem] def c0M:=fun x0 x1=>nm' (fQ' a0W rfl ⟨x0,x1⟩)
@[go_sem] def a8J:ACode:=q' 0 [ax (o' 1 (.box 3 (.t 0))),ab 2 false] (q' 3 [ae 3 1,ac 92 [3],ao (.not (.t 4)),aV 2] .ret)
theorem b1s (t:c8):Z9 Tryz.prog 266 [(true,[.s t.Var,.i .i64 t.Val.N,.s t.Val.S])] [] (.one (false,[.b (!o5 t)])):=by
 refine sx' false false none Tryz.func266 a8J [.t 2] [(92,[],a2p)] ?_
 intro hb hE
 simp only [go_sem];(repeat' first | apply CJ.mk | intro hc);all_goals try exact om'
 all_goals (first | rfl)
noncomputable def a3E:CT:=i3 (fun (x:c8)=>b1s x)
@[go_sem] def c1D:=fun x0 x1 x2=>nm' (fQ' a3E rfl ⟨x0,⟨x1,x2⟩⟩)
@[go_sem] def c1v:ACode:=q' 4 [aK 0] (.seq (q' 6 [am 0,aN,aK 0] (.block 0 (.loop (q' 9 [ar 8 7] (.seq (.cond (.t 9) .skip (.exit 0)) (.seq (.block 1 (q' 10 [am 8,aV 5] (q' 11 [aM
 [1,0,5],aI 3,aE 3,ao (.callv (.t 11) [.t 15])] (.cond (.t 16) (q' 17 [am 5,aV 4] .ret) .skip)))) (g' 18 [aA 8]))))))) (q' 4 [ao (.mov (.k (.v false [.c (.i
 .i64 (-1))])))] .ret))
theorem b3C (l:List c8):Z9 Tryz.prog 195 [(false,[.sl false [.s [],.i .i64 0,.s []] (l.map c8.cells)]),(false,[.f 266 []])] [] (.one (false,[.i .i64 (a0H (fun y=>!o5 y) l)])):=by
 refine sx' false false none Tryz.func195 c1v [.t 4] [(266,[],a3E)] ?_
 intro hb hE
 simp only [go_sem];(repeat' first | apply CJ.mk | intro hc);all_goals try exact om'
 refine lq' false [0,1,7] [] [] (fun i:{i:Nat // i≤l.length∧(l.take i).any (fun y=>!o5 y)=false}=>[(8,slV (.i .i64 i.1))]) nl' nl' (fun i=>l.length - i.1) (⟨0,by simp⟩) ?_
 intro S0 hS0 i
 obtain ⟨i,hi,ha⟩:=i
 simp only [go_sem,hS0];(repeat' first | apply CJ.mk | intro hc);all_goals try exact om'
 ·exact (o0 (p:=fun y=>!o5 y) (d:=default) (by omega) ha (by simpa [-List.getD_eq_getElem?_getD] using hc)).symm
 ·exact nx0 ⟨i+1,by omega,j5 (p:=fun y=>!o5 y) default (by omega) ha (by simpa [-List.getD_eq_getElem?_getD] using hc)⟩
 ·exact (n9 (by rwa [f9 (by omega)] at ha)).symm
noncomputable def a4p:CT:=i3 (fun (x:(List c8))=>b3C x)
@[go_sem] def c2F:=fun l=>nm' (fQ' a4p rfl l)
@[go_sem] def c1s:ACode:=q' 0 [ab 4 false] (q' 5 [aM [0,1],ac 195 [5,6],ao (.bin .geq (.t 7) (k' 0)),aV 4] .ret)
theorem b3A (l:List c8):Z9 Tryz.prog 90 [(false,[.sl false [.s [],.i .i64 0,.s []] (l.map c8.cells)]),(false,[.f 266 []])] [] (.one (false,[.b (l.any (fun y=>!o5 y))])):=by
 refine sx' false false none Tryz.func90 c1s [.t 4] [(195,[],a4p)] ?_
 intro hb hE
 simp only [go_sem];(repeat' first | apply CJ.mk | intro hc);all_goals try exact om'
 ·exact z6 _ _
noncomputable def a4n:CT:=i3 (fun (x:(List c8))=>b3A x)
@[go_sem] def c2D:=fun l=>nm' (fQ' a4n rfl l)
@[go_sem] def b2c:ACode:=q' 0 [ax (o' 1 (.box 2 (.t 0))),ab 2 false] (q' 3 [aG 0 1,ac 265 [4],am 5,au (.fa 1 (.t 1)) 6 true,au (.ld false 1 (.t 7)) 6 true,au (.len (.t 8)) 6 true,au
 (.bin .leq (.t 9) (k' 6)) 6 true,ao (.pick (.t 6) (.t 10) (bb false)),am 11,au (.fa 1 (.t 1)) 12 true,au (.ld false 1 (.t 13)) 12 true,au (.call 90 [.t 14,.k
 (.v false [.c (.f 266 [])])]) 12 true,au (.not (.t 15)) 12 true,ao (.pick (.t 12) (.t 16) (bb false)),aV 2] .ret)
theorem b5H (a:f5):Z9 Tryz.prog 150 [(true,[.s a.Name,.sl false [.s [],.i .i64 0,.s []] (a.Args.map c8.cells)])] [] (.one (false,[.b (a1D a)])):=by
 refine sx' false false none Tryz.func150 b2c [.t 2] [(265,[],a2n),(90,[],a4n)] ?_
 intro hb hE
 simp only [go_sem];(repeat' first | apply CJ.mk | intro hc);all_goals try exact om'
 all_goals (rw [a1D];grind)
noncomputable def a2l:CT:=i3 (fun (x:f5)=>b5H x)
@[go_sem] def c4A:=fun x0 x1=>nm' (fQ' a2l rfl ⟨x0,x1⟩)
@[go_sem] def b5g:ACode:=q' 0 [ax (o' 1 (.box 10 (.t 0))),ab 2 false] (.seq (q' 3 [aG 0 1] (.block 0 (.seq (q' 6 [ao (.bin .eql (.t 4) (k' 1)),aV 5] (.cond (.t 5) .skip (g' 7 [ao (.bin
 .eql (.t 4) (k' 2)),aV 5]))) (.cond (.t 5) (q' 8 [af 1 1,aE 2,ac 150 [9],am 10,au (.fa 3 (.t 1)) 11 true,au (.ld false 1 (.t 12)) 11 true,au (.bin .eql (.t
 13) (k' 0)) 11 true,ao (.pick (.t 11) (.t 14) (bb false)),am 15,au (.fa 4 (.t 1)) 16 true,au (.ld true 3 (.t 17)) 16 true,au (.bld [.s,.i .i64,.s] []) 16
 true,au (.eqs false [.s,.i .i64,.s] (.t 18) (.t 19)) 16 true,ao (.pick (.t 16) (.t 20) (bb false)),am 21,au (.fa 7 (.t 1)) 22 true,au (.ld true 3 (.t 23))
 22 true,au (.bld [.s,.i .i64,.s] []) 22 true,au (.eqs false [.s,.i .i64,.s] (.t 24) (.t 25)) 22 true,ao (.pick (.t 22) (.t 26) (bb false)),aV 2] .ret) (q'
 29 [ao (.bin .eql (.t 4) (k' 3)),aV 28] (.cond (.t 28) (q' 30 [aG 3 1,ao (.bin .geq (.t 31) (k' 1)),am 32,au (.fa 3 (.t 1)) 33 true,au (.ld false 1 (.t 34))
 33 true,au (.bin .leq (.t 35) (k' 4)) 33 true,ao (.pick (.t 33) (.t 36) (bb false)),am 37,au (.fa 1 (.t 1)) 38 true,au (.fa 0 (.t 39)) 38 true,au (.ld false 1
 (.t 40)) 38 true,au (.bin .eql (.t 41) (.k (.v false [.c (.s [])]))) 38 true,ao (.pick (.t 38) (.t 42) (bb false)),am 43,au (.fa 1 (.t 1)) 44 true,au (.fa 1
 (.t 45)) 44 true,au (.ld false 1 (.t 46)) 44 true,au (.len (.t 47)) 44 true,au (.bin .eql (.t 48) (k' 0)) 44 true,ao (.pick (.t 44) (.t 49) (bb false)),am
 50,au (.fa 4 (.t 1)) 51 true,au (.ld true 3 (.t 52)) 51 true,au (.call 92 [.t 53]) 51 true,ao (.pick (.t 51) (.t 54) (bb false)),am 55,au (.fa 7 (.t 1)) 56
 true,au (.ld true 3 (.t 57)) 56 true,au (.call 92 [.t 58]) 56 true,ao (.pick (.t 56) (.t 59) (bb false)),aV 2] .ret) .skip)))))) (q' 0 [ab 2 false] .ret))
theorem b8f (l:d5):Z9 Tryz.prog 153 [(true,[.i .i64 l.Kind,.s l.Atom.Name,.sl false [.s [],.i .i64 0,.s []] (l.Atom.Args.map c8.cells),.i .i64 l.Op,.s l.A.Var,.i .i64 l.A.Val.N,.s l.A.Val.S,.s l.B.Var,.i .i64 l.B.Val.N,.s l.B.Val.S])] [] (.one (false,[.b (a1b l)])):=by
 refine sx' false false none Tryz.func153 b5g [.t 2] [(92,[],a2p),(150,[],a2l)] ?_
 intro hb hE
 simp only [go_sem];(repeat' first | apply CJ.mk | intro hc);all_goals try exact om'
 all_goals (first | rfl | (clear hb;(try simp only [a5k,Bool.not_not]);first | rfl | (simp only [a1b,c0v];done) | grind [a1b,c0v]))
noncomputable def a7A:CT:=i3 (fun (x:d5)=>b8f x)
@[go_sem] def c6l:=fun x0 x1 x2 x3 x4 x5 x6 x7 x8 x9=>nm' (fQ' a7A rfl ⟨x0,⟨x1,x2⟩,x3,⟨x4,⟨x5,x6⟩⟩,⟨x7,⟨x8,x9⟩⟩⟩)
@[go_sem] def a8O:ACode:=q' 0 [ax (o' 1 (.box 10 (.t 0))),ab 2 false] (q' 3 [ae 10 1,ac 153 [3],ao (.not (.t 4)),aV 2] .ret)
theorem b1x (l:d5):Z9 Tryz.prog 152 [(true,[.i .i64 l.Kind,.s l.Atom.Name,.sl false [.s [],.i .i64 0,.s []] (l.Atom.Args.map c8.cells),.i .i64 l.Op,.s l.A.Var,.i .i64 l.A.Val.N,.s l.A.Val.S,.s l.B.Var,.i .i64 l.B.Val.N,.s l.B.Val.S])] [] (.one (false,[.b (!a1b l)])):=by
 refine sx' false false none Tryz.func152 a8O [.t 2] [(153,[],a7A)] ?_
 intro hb hE
 simp only [go_sem];(repeat' first | apply CJ.mk | intro hc);all_goals try exact om'
 all_goals (first | rfl | (clear hb;(try simp only [a5k,Bool.not_not]);first | rfl | (simp only [a1b];done) | grind [a1b]))
noncomputable def a3I:CT:=i3 (fun (x:d5)=>b1x x)
@[go_sem] def c1I:=fun x0 x1 x2 x3 x4 x5 x6 x7 x8 x9=>nm' (fQ' a3I rfl ⟨x0,⟨x1,x2⟩,x3,⟨x4,⟨x5,x6⟩⟩,⟨x7,⟨x8,x9⟩⟩⟩)
@[go_sem] def b6D:ACode:=q' 4 [aK 0] (.seq (q' 6 [am 0,aN,aK 0] (.block 0 (.loop (q' 9 [ar 8 7] (.seq (.cond (.t 9) .skip (.exit 0)) (.seq (.block 1 (q' 10 [am 8,aV 5] (q' 11 [aM
 [1,0,5],aI 10,aE 10,ao (.callv (.t 11) [.t 15])] (.cond (.t 16) (q' 17 [am 5,aV 4] .ret) .skip)))) (g' 18 [aA 8]))))))) (q' 4 [ao (.mov (.k (.v false [.c (.i
 .i64 (-1))])))] .ret))
theorem c7L (l:List d5):Z9 Tryz.prog 267 [(false,[.sl false [.i .i64 0,.s [],.sl false [.s [],.i .i64 0,.s []] [],.i .i64 0,.s [],.i .i64 0,.s [],.s [],.i .i64 0,.s []] (l.map (d5.cells false false))]),(false,[.f 152 []])] [] (.one (false,[.i .i64 (a0H (fun y=>!a1b y) l)])):=by
 refine sx' false false none Tryz.func267 b6D [.t 4] [(152,[],a3I)] ?_
 intro hb hE
 simp only [go_sem];(repeat' first | apply CJ.mk | intro hc);all_goals try exact om'
 refine lq' false [0,1,7] [] [] (fun i:{i:Nat // i≤l.length∧(l.take i).any (fun y=>!a1b y)=false}=>[(8,slV (.i .i64 i.1))]) nl' nl' (fun i=>l.length - i.1) (⟨0,by simp⟩) ?_
 intro S0 hS0 i
 obtain ⟨i,hi,ha⟩:=i
 simp only [go_sem,hS0];(repeat' first | apply CJ.mk | intro hc);all_goals try exact om'
 ·exact (o0 (p:=fun y=>!a1b y) (d:=default) (by omega) ha (by simpa [-List.getD_eq_getElem?_getD] using hc)).symm
 ·exact nx0 ⟨i+1,by omega,j5 (p:=fun y=>!a1b y) default (by omega) ha (by simpa [-List.getD_eq_getElem?_getD] using hc)⟩
 ·exact (n9 (by rwa [f9 (by omega)] at ha)).symm
noncomputable def b9h:CT:=i3 (fun (x:(List d5))=>c7L x)
@[go_sem] def c_idxLit_eq:=fun l=>nm' (fQ' b9h rfl l)
@[go_sem] def b6C:ACode:=q' 0 [ab 4 false] (q' 5 [aM [0,1],ac 267 [5,6],ao (.bin .geq (.t 7) (k' 0)),aV 4] .ret)
theorem c7I (l:List d5):Z9 Tryz.prog 151 [(false,[.sl false [.i .i64 0,.s [],.sl false [.s [],.i .i64 0,.s []] [],.i .i64 0,.s [],.i .i64 0,.s [],.s [],.i .i64 0,.s []] (l.map (d5.cells false false))]),(false,[.f 152 []])] [] (.one (false,[.b (l.any (fun y=>!a1b y))])):=by
 refine sx' false false none Tryz.func151 b6C [.t 4] [(267,[],b9h)] ?_
 intro hb hE
 simp only [go_sem];(repeat' first | apply CJ.mk | intro hc);all_goals try exact om'
 ·exact z6 _ _
noncomputable def b9e:CT:=i3 (fun (x:(List d5))=>c7I x)
@[go_sem] def c_conLit_eq:=fun l=>nm' (fQ' b9e rfl l)
@[go_sem] def b2h:ACode:=q' 0 [ax (o' 1 (.box 4 (.t 0))),ab 2 false] (q' 3 [aG 0 1,ao (.bin .geq (.t 4) (k' 1)),am 5,au (.fa 0 (.t 1)) 6 true,au (.ld false 1 (.t 7)) 6 true,au (.bin
 .leq (.t 8) (k' 3)) 6 true,ao (.pick (.t 6) (.t 9) (bb false)),am 10,au (.fa 1 (.t 1)) 11 true,au (.ld true 2 (.t 12)) 11 true,au (.call 150 [.t 13]) 11
 true,ao (.pick (.t 11) (.t 14) (bb false)),am 15,au (.fa 3 (.t 1)) 16 true,au (.ld false 1 (.t 17)) 16 true,au (.len (.t 18)) 16 true,au (.bin .leq (.t 19)
 (k' 8)) 16 true,ao (.pick (.t 16) (.t 20) (bb false)),am 21,au (.fa 3 (.t 1)) 22 true,au (.ld false 1 (.t 23)) 22 true,au (.call 151 [.t 24,.k (.v false [.c
 (.f 152 [])])]) 22 true,au (.not (.t 25)) 22 true,ao (.pick (.t 22) (.t 26) (bb false)),aV 2] .ret)
theorem b5M (r:c6):Z9 Tryz.prog 68 [(true,[.i .i64 r.Kind,.s r.Head.Name,.sl false [.s [],.i .i64 0,.s []] (r.Head.Args.map c8.cells),.sl false [.i .i64 0,.s [],.sl false [.s [],.i .i64 0,.s []] [],.i .i64 0,.s [],.i .i64 0,.s [],.s [],.i .i64 0,.s []] (r.Body.map (d5.cells false false))])] [] (.one (false,[.b (i9 r)])):=by
 refine sx' false false none Tryz.func68 b2h [.t 2] [(150,[],a2l),(151,[],b9e)] ?_
 intro hb hE
 simp only [go_sem];(repeat' first | apply CJ.mk | intro hc);all_goals try exact om'
 all_goals (first | rfl | (clear hb;(try simp only [a5k,Bool.not_not]);first | rfl | (simp only [i9];done) | grind [i9]))
noncomputable def a2o:CT:=i3 (fun (x:c6)=>b5M x)
@[go_sem] def c4F:=fun x0 x1 x2 x3=>nm' (fQ' a2o rfl ⟨x0,⟨x1,x2⟩,x3⟩)
@[go_sem] def a5y:ACode:=q' 0 [ax (o' 1 (.box 4 (.t 0))),ab 2 false] (q' 3 [ae 4 1,ac 68 [3],ao (.not (.t 4)),aV 2] .ret)
theorem a6L (r:c6):Z9 Tryz.prog 384 [(true,[.i .i64 r.Kind,.s r.Head.Name,.sl false [.s [],.i .i64 0,.s []] (r.Head.Args.map c8.cells),.sl false [.i .i64 0,.s [],.sl false [.s [],.i .i64 0,.s []] [],.i .i64 0,.s [],.i .i64 0,.s [],.s [],.i .i64 0,.s []] (r.Body.map (d5.cells false false))])] [] (.one (false,[.b (!i9 r)])):=by
 refine sx' false false none Tryz.func384 a5y [.t 2] [(68,[],a2o)] ?_
 intro hb hE
 simp only [go_sem];(repeat' first | apply CJ.mk | intro hc);all_goals try exact om'
 all_goals (first | rfl | (clear hb;(try simp only [a5k,Bool.not_not]);first | rfl | (simp only [i9];done) | grind [i9]))
noncomputable def a1G:CT:=i3 (fun (x:c6)=>a6L x)
@[go_sem] def b8I:=fun x0 x1 x2 x3=>nm' (fQ' a1G rfl ⟨x0,⟨x1,x2⟩,x3⟩)
@[go_sem] def b1Z:ACode:=q' 4 [aK 0] (.seq (q' 6 [am 0,aN,aK 0] (.block 0 (.loop (q' 9 [ar 8 7] (.seq (.cond (.t 9) .skip (.exit 0)) (.seq (.block 1 (q' 10 [am 8,aV 5] (q' 11 [aM
 [1,0,5],aI 4,aE 4,ao (.callv (.t 11) [.t 15])] (.cond (.t 16) (q' 17 [am 5,aV 4] .ret) .skip)))) (g' 18 [aA 8]))))))) (q' 4 [ao (.mov (.k (.v false [.c (.i
 .i64 (-1))])))] .ret))
theorem c5A (l:List c6):Z9 Tryz.prog 334 [(false,[.sl false [.i .i64 0,.s [],.sl false [.s [],.i .i64 0,.s []] [],.sl false [.i .i64 0,.s [],.sl false [.s [],.i .i64 0,.s []] [],.i .i64 0,.s [],.i .i64 0,.s [],.s [],.i .i64 0,.s []] []] (l.map (c6.cells false false))]),(false,[.f 384 []])] [] (.one (false,[.i .i64 (a0H (fun y=>!i9 y) l)])):=by
 refine sx' false false none Tryz.func334 b1Z [.t 4] [(384,[],a1G)] ?_
 intro hb hE
 simp only [go_sem];(repeat' first | apply CJ.mk | intro hc);all_goals try exact om'
 refine lq' false [0,1,7] [] [] (fun i:{i:Nat // i≤l.length∧(l.take i).any (fun y=>!i9 y)=false}=>[(8,slV (.i .i64 i.1))]) nl' nl' (fun i=>l.length - i.1) (⟨0,by simp⟩) ?_
 intro S0 hS0 i
 obtain ⟨i,hi,ha⟩:=i
 simp only [go_sem,hS0];(repeat' first | apply CJ.mk | intro hc);all_goals try exact om'
 ·exact (o0 (p:=fun y=>!i9 y) (d:=default) (by omega) ha (by simpa [-List.getD_eq_getElem?_getD] using hc)).symm
 ·exact nx0 ⟨i+1,by omega,j5 (p:=fun y=>!i9 y) default (by omega) ha (by simpa [-List.getD_eq_getElem?_getD] using hc)⟩
 ·exact (n9 (by rwa [f9 (by omega)] at ha)).symm
noncomputable def b6M:CT:=i3 (fun (x:(List c6))=>c5A x)
@[go_sem] def c8t:=fun l=>nm' (fQ' b6M rfl l)
@[go_sem] def c1q:ACode:=q' 0 [ab 4 false] (q' 5 [aM [0,1],ac 334 [5,6],ao (.bin .geq (.t 7) (k' 0)),aV 4] .ret)
theorem c5z (l:List c6):Z9 Tryz.prog 383 [(false,[.sl false [.i .i64 0,.s [],.sl false [.s [],.i .i64 0,.s []] [],.sl false [.i .i64 0,.s [],.sl false [.s [],.i .i64 0,.s []] [],.i .i64 0,.s [],.i .i64 0,.s [],.s [],.i .i64 0,.s []] []] (l.map (c6.cells false false))]),(false,[.f 384 []])] [] (.one (false,[.b (l.any (fun y=>!i9 y))])):=by
 refine sx' false false none Tryz.func383 c1q [.t 4] [(334,[],b6M)] ?_
 intro hb hE
 simp only [go_sem];(repeat' first | apply CJ.mk | intro hc);all_goals try exact om'
 ·exact z6 _ _
noncomputable def b6L:CT:=i3 (fun (x:(List c6))=>c5z x)
@[go_sem] def c8s:=fun l=>nm' (fQ' b6L rfl l)
@[go_sem] def b7A:ACode:=q' 0 [ab 4 false] (q' 5 [am 0,ao (.bin .geq (.t 5) (k' 0)),am 6,au (.mov (.t 0)) 7 true,au (.mov (.t 1)) 7 true,au (.bin .leq (.t 8) (.t 9)) 7 true,ao (.pick
 (.t 7) (.t 10) (bb false)),aV 4] .ret)
theorem c0c (n:Int) (most:Int):Z9 Tryz.prog 200 [(false,[.i .i64 n]),(false,[.i .i64 most])] [] (.one (false,[.b (decide (0≤n)&&decide (n≤most))])):=by
 refine sx' false false none Tryz.func200 b7A [.t 4] [] ?_
 intro hb hE
 simp only [go_sem];(repeat' first | apply CJ.mk | intro hc);all_goals try exact om'
 all_goals (first | rfl)
noncomputable def a2e:CT:=i3 (fun (x:Int×Int)=>c0c x.1 x.2)
@[go_sem] def c7y:=fun n x0=>nm' (fQ' a2e rfl (n,x0))
@[go_sem] def a6U:ACode:=q' 0 [ax (o' 1 (.box 2 (.t 0))),ab 2 false] (.seq (q' 5 [aG 0 1,aN,aK 0] (.block 0 (.loop (q' 9 [ar 8 7] (.seq (.cond (.t 9) .skip (.exit 0)) (.seq (.block 1
 (q' 10 [ai 3 6 8,aE 3,ax (w' 4 [.i .i64,.s,.i .i64]),aS 3 4 11] (q' 12 [aG 0 4,ao (.bin .lss (.t 13) (k' 1)),am 14,au (.fa 0 (.t 4)) 15 false,au (.ld false
 1 (.t 16)) 15 false,au (.bin .gtr (.t 17) (k' 3)) 15 false,ao (.pick (.t 15) (bb true) (.t 18)),am 19,au (.fa 1 (.t 4)) 20 false,au (.ld false 1 (.t 21)) 20
 false,au (.call 265 [.t 22]) 20 false,au (.not (.t 23)) 20 false,ao (.pick (.t 20) (bb true) (.t 24)),am 25,au (.fa 2 (.t 4)) 26 false,au (.ld false 1 (.t
 27)) 26 false,au (.call 200 [.t 28,.k (.v false [.c (.i .i64 6)])]) 26 false,au (.not (.t 29)) 26 false,ao (.pick (.t 26) (bb true) (.t 30))] (.cond (.t 31)
 (q' 0 [ab 2 false] .ret) .skip)))) (g' 32 [aA 8]))))))) (q' 33 [aG 0 1,aN,ao (.bin .leq (.t 35) (k' 16)),am 36,au (.fa 1 (.t 1)) 37 true,au (.ld false 1 (.t
 38)) 37 true,au (.len (.t 39)) 37 true,au (.bin .leq (.t 40) (k' 24)) 37 true,ao (.pick (.t 37) (.t 41) (bb false)),am 42,au (.fa 1 (.t 1)) 43 true,au (.ld
 false 1 (.t 44)) 43 true,au (.call 383 [.t 45,.k (.v false [.c (.f 384 [])])]) 43 true,au (.not (.t 46)) 43 true,ao (.pick (.t 43) (.t 47) (bb false)),aV 2]
 .ret))
theorem a9u (p:c4):Z9 Tryz.prog 333 [(true,[.sl false [.i .i64 0,.s [],.i .i64 0] (p.Decls.map d7.cells),.sl false [.i .i64 0,.s [],.sl false [.s [],.i .i64 0,.s []] [],.sl false [.i .i64 0,.s [],.sl false [.s [],.i .i64 0,.s []] [],.i .i64 0,.s [],.i .i64 0,.s [],.s [],.i .i64 0,.s []] []] (p.Rules.map (c6.cells false false))])] [] (.one (false,[.b (m9 p)])):=by
 refine sx' false false none Tryz.func333 a6U [.t 2] [(265,[],a2n),(200,[],a2e),(383,[],b6L)] ?_
 intro hb hE
 simp only [go_sem];(repeat' first | apply CJ.mk | intro hc);all_goals try exact om'
 refine lq' false [1,6,7] [2] [] (fun i:{i:Nat // i≤p.Decls.length∧(p.Decls.take i).all a1S=true}=>[(8,slV (.i .i64 i.1))]) nl' nl' (fun i=>p.Decls.length - i.1) (⟨0,by simp⟩) ?_
 intro S0 hS0 i
 obtain ⟨i,hi,ha⟩:=i
 simp only [go_sem,hS0];(repeat' first | apply CJ.mk | intro hc);all_goals try exact om'
 ·have h:a1S (p.Decls.getD i default)=false:=by clear hb hS0 ha;grind [a1S]
  rw [m9,all_false (by omega) h];rfl
 ·have h:a1S (p.Decls.getD i default)=true:=by clear hb hS0 ha;grind [a1S]
  exact nx0 ⟨i+1,by omega,v8 default (by omega) ha h⟩
 ·have hd:p.Decls.all a1S=true:=all_of_take (by omega) ha
  rw [m9,hd,a5k,Bool.not_not];rfl
noncomputable def a0U:CT:=i3 (fun (x:c4)=>a9u x)
@[go_sem] def c0C:=fun x0 x1=>nm' (fQ' a0U rfl ⟨x0,x1⟩)
def v7 (p:c4) (name:List UInt8):d7:=(p.Decls.find? fun d=>d.Name==name).getD default
def a0b (p:c4) (name:List UInt8):Bool:=p.Decls.any fun d=>d.Name==name
theorem a5n {α:Type} {p:α→Bool} {l:List α} (h:l.any p=false):l.find? p=none:=by
 rw [List.find?_eq_none]
 rw [List.any_eq_false] at h
 exact h
theorem b7L {α:Type} {p:α→Bool} {l:List α} {i:Nat} (d:α) (hi:i < l.length) (ha:(l.take i).any p=false) (hp:p (l.getD i d)=true):l.find? p=some (l.getD i d):=by
 have hg:l.drop i=l.getD i d::l.drop (i+1):=by rw [List.getD_eq_getElem?_getD,List.getElem?_eq_getElem hi];exact (List.getElem_cons_drop hi).symm
 have e:l.find? p=(l.take i++l.drop i).find? p:=by rw [List.take_append_drop]
 rw [e,List.find?_append,a5n ha,hg]
 simp only [Option.none_or,List.find?_cons,hp]
theorem a9l {p:c4} {name:List UInt8} {i:Nat} (hi:i < p.Decls.length) (ha:((p.Decls.take i).any fun d=>d.Name==name)=false) (hp:((p.Decls.getD i default).Name==name)=true):v7 p name=p.Decls.getD i default∧a0b p name=true:=by
 refine ⟨?_, ?_⟩
 ·rw [v7,b7L default hi ha hp];rfl
 ·exact any_true (d:=default) hi hp
theorem a5l {p:c4} {name:List UInt8} (ha:(p.Decls.any fun d=>d.Name==name)=false):v7 p name=default∧a0b p name=false:=by
 refine ⟨?_,ha⟩
 rw [v7,a5n ha];rfl
@[go_sem] def b1h:ACode:=q' 2 [ao (.box 2 (.t 0)),ax (w' 4 [.i .i64,.s,.i .i64])] (.seq (q' 7 [aG 0 2,aN,aK 0] (.block 0 (.loop (q' 11 [ar 10 9] (.seq (.cond (.t 11) .skip (.exit 0))
 (.seq (.block 1 (q' 12 [ai 3 8 10,aE 3,ax (w' 6 [.i .i64,.s,.i .i64]),aS 3 6 13] (q' 14 [aG 1 6,am 1,ao (.bin .eql (.t 15) (.t 16))] (.cond (.t 17) (q' 18
 [ae 3 6,aS 3 4 18] .ret) .skip)))) (g' 19 [aA 10]))))))) (q' 20 [ao (.bld [.i .i64,.s,.i .i64] []),aS 3 4 20] .ret))
theorem b4v (p:c4) (name:List UInt8):Z9 Tryz.prog 116 [(true,[.sl false [.i .i64 0,.s [],.i .i64 0] (p.Decls.map d7.cells),.sl false [.i .i64 0,.s [],.sl false [.s [],.i .i64 0,.s []] [],.sl false [.i .i64 0,.s [],.sl false [.s [],.i .i64 0,.s []] [],.i .i64 0,.s [],.i .i64 0,.s [],.s [],.i .i64 0,.s []] []] (p.Rules.map (c6.cells false false))]),(false,[.s name])] [] (.one (true,[.i .i64 ((v7 p name).Kind),.s ((v7 p name).Name),.i .i64 ((v7 p name).Arity)])):=by
 refine sx' false false none Tryz.func116 b1h [.c 4 true 3] [] ?_
 intro hb hE
 simp only [go_sem];(repeat' first | apply CJ.mk | intro hc);all_goals try exact om'
 refine lq' false [1,4,8,9] [] [] (fun i:{i:Nat // i≤p.Decls.length∧(p.Decls.take i).any (fun d=>d.Name==name)=false}=>[(10,slV (.i .i64 i.1))]) (fun i=>[(8,[.c (.i .i64 0),.c (.s []),.c (.i .i64 0)])]) nl' (fun i=>p.Decls.length - i.1) (⟨0,by simp⟩) ?_
 intro S0 hS0 i
 obtain ⟨i,hi,ha⟩:=i
 simp only [go_sem,hS0];(repeat' first | apply CJ.mk | intro hc);all_goals try exact om'
 ·rw [(a9l (by omega) ha hc).1];exact ⟨⟨rfl,rfl⟩,rfl⟩
 ·exact nx0 ⟨i+1,by omega,j5 default (by omega) ha hc⟩
 ·rw [(a5l (by rwa [f9 (by omega)] at ha)).1];exact ⟨⟨rfl,rfl⟩,rfl⟩
noncomputable def y7:CT:=i3 (fun (x:c4×(List UInt8))=>b4v x.1 x.2)
@[go_sem] def c3y:=fun x0 x1 x2=>nm' (fQ' y7 rfl (⟨x0,x1⟩,x2))
@[go_sem] def b2d:ACode:=q' 2 [ao (.box 2 (.t 0)),ax (w' 4 [.i .i64,.s,.i .i64]),ab 5 false] (.seq (q' 8 [aG 0 2,aN,aK 0] (.block 0 (.loop (q' 12 [ar 11 10] (.seq (.cond (.t 12) .skip
 (.exit 0)) (.seq (.block 1 (q' 13 [ai 3 9 11,aE 3,ax (w' 7 [.i .i64,.s,.i .i64]),aS 3 7 14] (q' 15 [aG 1 7,am 1,ao (.bin .eql (.t 16) (.t 17))] (.cond (.t
 18) (q' 19 [ae 3 7,aS 3 4 19,ab 5 true] .ret) .skip)))) (g' 20 [aA 11]))))))) (q' 21 [ao (.bld [.i .i64,.s,.i .i64] []),aS 3 4 21,ab 5 false] .ret))
theorem b5I (p:c4) (name:List UInt8):Z9 Tryz.prog 120 [(true,[.sl false [.i .i64 0,.s [],.i .i64 0] (p.Decls.map d7.cells),.sl false [.i .i64 0,.s [],.sl false [.s [],.i .i64 0,.s []] [],.sl false [.i .i64 0,.s [],.sl false [.s [],.i .i64 0,.s []] [],.i .i64 0,.s [],.i .i64 0,.s [],.s [],.i .i64 0,.s []] []] (p.Rules.map (c6.cells false false))]),(false,[.s name])] [] (.tup [(true,[.i .i64 (((v7 p name,a0b p name).1).Kind),.s (((v7 p name,a0b p name).1).Name),.i .i64 (((v7 p name,a0b p name).1).Arity)]),(false,[.b ((v7 p name,a0b p name).2)])]):=by
 refine sx' false false none Tryz.func120 b2d [.c 4 true 3,.t 5] [] ?_
 intro hb hE
 simp only [go_sem];(repeat' first | apply CJ.mk | intro hc);all_goals try exact om'
 refine lq' false [1,4,9,10] [] [] (fun i:{i:Nat // i≤p.Decls.length∧(p.Decls.take i).any (fun d=>d.Name==name)=false}=>[(11,slV (.i .i64 i.1))]) (fun i=>[(8,[.c (.i .i64 0),.c (.s []),.c (.i .i64 0)])]) nl' (fun i=>p.Decls.length - i.1) (⟨0,by simp⟩) ?_
 intro S0 hS0 i
 obtain ⟨i,hi,ha⟩:=i
 simp only [go_sem,hS0];(repeat' first | apply CJ.mk | intro hc);all_goals try exact om'
 ·have h:=a9l (by omega) ha hc
  rw [h.1,h.2];exact ⟨⟨⟨rfl,rfl⟩,rfl⟩,rfl⟩
 ·exact nx0 ⟨i+1,by omega,j5 default (by omega) ha hc⟩
 ·have h:=a5l (by rwa [f9 (by omega)] at ha)
  rw [h.1,h.2];exact ⟨⟨⟨rfl,rfl⟩,rfl⟩,rfl⟩
noncomputable def a2m:CT:=i3 (fun (x:c4×(List UInt8))=>b5I x.1 x.2)
@[go_sem] def c4B:=fun x0 x1 x2=>nm' (fQ' a2m rfl (⟨x0,x1⟩,x2))
theorem b9F {α:Type} {p:α→Bool} {l:List α} (h:l.any p=true):∃ x∈l,p x=true∧l.find? p=some x:=by
 cases e:l.find? p with
 | none=>rw [List.find?_eq_none] at e;rw [List.any_eq_true] at h;obtain ⟨x,hx,hp⟩:=h;exact absurd hp (e x hx)
 | some x=>exact ⟨x,List.mem_of_find?_eq_some e,List.find?_some e,rfl⟩
theorem b7N {p:c4} {name:List UInt8} (h:m9 p=true):(a0b p name=true→1≤(v7 p name).Kind∧(v7 p name).Kind≤3)∧(a0b p name=false→v7 p name=default):=by
 refine ⟨fun hd=>?_,fun hd=>(a5l hd).1⟩
 obtain ⟨x,hx,_,e⟩:=b9F hd
 rw [v7,e]
 simp only [m9,Bool.and_eq_true,List.all_eq_true] at h
 have:=h.1.1.1 x hx
 simp only [a1S,Bool.and_eq_true,decide_eq_true_eq] at this
 exact ⟨this.1.1.1,this.1.1.2⟩
theorem b7O {p:c4} {name:List UInt8} (h:m9 p=true):((v7 p name).Kind==0)=!a0b p name:=by
 have:=b7N (name:=name) h
 cases hd:a0b p name with
 | true=>have:=this.1 hd;simp;omega
 | false=>rw [this.2 hd];rfl
end Go.Aw
