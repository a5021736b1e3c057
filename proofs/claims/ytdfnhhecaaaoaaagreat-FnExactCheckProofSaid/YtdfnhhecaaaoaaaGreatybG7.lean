/- Rows filled. No condition. -/
import Derived.Test.YtdfnhhecaaaoaaaGreatybG2
namespace Go.Aw
open Go.Proofs
attribute [local irreducible] aft blk lpK retK AW Z9
set_option linter.all false
set_option maxRecDepth 100000
def kept (s:List UInt8):Bool:=s==[115,116,97,116,101] || s==[101,118,101,110,116] || s==[118,105,101,119] || s==[110,111,116]
def o5 (t:c8):Bool:=bif !(t.Var==[]) then a3g t.Var&&(t.Val.N==0&&t.Val.S==[]) else i8 t.Val&&!kept t.Val.S
@[go_sem] def b7D:ACode:=q' 0 [ab 2 false] (q' 3 [am 0,ao (.bin .eql (.t 3) (.k (.v false [.c (.s [115,116,97,116,101])]))),am 4,au (.mov (.t 0)) 5 false,au (.bin .eql (.t 6) (.k
 (.v false [.c (.s [101,118,101,110,116])]))) 5 false,ao (.pick (.t 5) (bb true) (.t 7)),am 8,au (.mov (.t 0)) 9 false,au (.bin .eql (.t 10) (.k (.v false
 [.c (.s [118,105,101,119])]))) 9 false,ao (.pick (.t 9) (bb true) (.t 11)),am 12,au (.mov (.t 0)) 13 false,au (.bin .eql (.t 14) (.k (.v false [.c (.s
 [110,111,116])]))) 13 false,ao (.pick (.t 13) (bb true) (.t 15)),aV 2] .ret)
theorem c0e (s:List UInt8):Z9 Tryz.prog 284 [(false,[.s s])] [] (.one (false,[.b (kept s)])):=by
 refine sx' false false none Tryz.func284 b7D [.t 2] [] ?_
 intro hb hE
 simp only [go_sem];(repeat' first | apply CJ.mk | intro hc);all_goals try exact om'
 all_goals (first | rfl)
noncomputable def a4S:CT:=i3 (fun (x:(List UInt8))=>c0e x)
@[go_sem] def c7A:=fun s=>nm' (fQ' a4S rfl s)
@[go_sem] def b7x:ACode:=q' 0 [ab 2 false] (q' 3 [am 0,ao (.bin .eql (.t 3) (.k (.v false [.c (.s [115,116,97,116,101])]))),am 4,au (.mov (.t 0)) 5 false,au (.bin .eql (.t 6) (.k
 (.v false [.c (.s [101,118,101,110,116])]))) 5 false,ao (.pick (.t 5) (bb true) (.t 7)),am 8,au (.mov (.t 0)) 9 false,au (.bin .eql (.t 10) (.k (.v false
 [.c (.s [118,105,101,119])]))) 9 false,ao (.pick (.t 9) (bb true) (.t 11)),am 12,au (.mov (.t 0)) 13 false,au (.bin .eql (.t 14) (.k (.v false [.c (.s
 [110,111,116])]))) 13 false,ao (.pick (.t 13) (bb true) (.t 15)),aV 2] .ret)
theorem b9Z (s:List UInt8):Z9 Tryz.prog 196 [(false,[.s s])] [] (.one (false,[.b (kept s)])):=by
 refine sx' false false none Tryz.func196 b7x [.t 2] [] ?_
 intro hb hE
 simp only [go_sem];(repeat' first | apply CJ.mk | intro hc);all_goals try exact om'
 all_goals (first | rfl)
noncomputable def a4q:CT:=i3 (fun (x:(List UInt8))=>b9Z x)
@[go_sem] def c7v:=fun s=>nm' (fQ' a4q rfl s)
@[go_sem] def a7i:ACode:=q' 0 [ax (o' 1 (.box 3 (.t 0))),ab 2 false] (.seq (q' 3 [aG 0 1,ao (.bin .neq (.t 4) (.k (.v false [.c (.s [])])))] (.cond (.t 5) (q' 6 [aG 0 1,ac 321 [7],am
 8,au (.fa 1 (.t 1)) 9 true,au (.ld true 2 (.t 10)) 9 true,au (.bld [.i .i64,.s] []) 9 true,au (.eqs false [.i .i64,.s] (.t 11) (.t 12)) 9 true,ao (.pick (.t
 9) (.t 13) (bb false)),aV 2] .ret) .skip)) (q' 15 [af 1 1,aE 2,ac 322 [16],am 17,au (.fa 1 (.t 1)) 18 true,au (.fa 1 (.t 19)) 18 true,au (.ld false 1 (.t 20))
 18 true,au (.call 284 [.t 21]) 18 true,au (.not (.t 22)) 18 true,ao (.pick (.t 18) (.t 23) (bb false)),aV 2] .ret))
theorem a9J (t:c8):Z9 Tryz.prog 306 [(true,[.s t.Var,.i .i64 t.Val.N,.s t.Val.S])] [] (.one (false,[.b (o5 t)])):=by
 refine sx' false false none Tryz.func306 a7i [.t 2] [(321,[],a3r),(322,[],w3),(284,[],a4S)] ?_
 intro hb hE
 simp only [go_sem];(repeat' first | apply CJ.mk | intro hc);all_goals try exact om'
 all_goals (first | (rw [o5,hc];rfl) | (have hc2:(!(t.Var==[]))=true:=hc;rw [o5,hc2];rfl) | (have hc2:(!(t.Var==[]))=false:=hc;rw [o5,hc2];rfl))
noncomputable def a0Y:CT:=i3 (fun (x:c8)=>a9J x)
@[go_sem] def c0R:=fun x0 x1 x2=>nm' (fQ' a0Y rfl ⟨x0,⟨x1,x2⟩⟩)
@[go_sem] def b2i:ACode:=q' 0 [ax (o' 1 (.box 3 (.t 0))),ab 2 false] (.seq (q' 3 [aG 0 1,ao (.bin .neq (.t 4) (.k (.v false [.c (.s [])])))] (.cond (.t 5) (q' 6 [aG 0 1,ac 193 [7],am
 8,au (.fa 1 (.t 1)) 9 true,au (.ld true 2 (.t 10)) 9 true,au (.bld [.i .i64,.s] []) 9 true,au (.eqs false [.i .i64,.s] (.t 11) (.t 12)) 9 true,ao (.pick (.t
 9) (.t 13) (bb false)),aV 2] .ret) .skip)) (q' 15 [af 1 1,aE 2,ac 194 [16],am 17,au (.fa 1 (.t 1)) 18 true,au (.fa 1 (.t 19)) 18 true,au (.ld false 1 (.t 20))
 18 true,au (.call 196 [.t 21]) 18 true,au (.not (.t 22)) 18 true,ao (.pick (.t 18) (.t 23) (bb false)),aV 2] .ret))
theorem b5N (t:c8):Z9 Tryz.prog 92 [(true,[.s t.Var,.i .i64 t.Val.N,.s t.Val.S])] [] (.one (false,[.b (o5 t)])):=by
 refine sx' false false none Tryz.func92 b2i [.t 2] [(193,[],a3k),(194,[],y6),(196,[],a4q)] ?_
 intro hb hE
 simp only [go_sem];(repeat' first | apply CJ.mk | intro hc);all_goals try exact om'
 all_goals (first | (rw [o5,hc];rfl) | (have hc2:(!(t.Var==[]))=true:=hc;rw [o5,hc2];rfl) | (have hc2:(!(t.Var==[]))=false:=hc;rw [o5,hc2];rfl))
noncomputable def a2p:CT:=i3 (fun (x:c8)=>b5N x)
@[go_sem] def c4G:=fun x0 x1 x2=>nm' (fQ' a2p rfl ⟨x0,⟨x1,x2⟩⟩)
def j4 (e:e8) (t:c8):c7×Bool:=bif t.Var==[] then (t.Val,true) else o7 e t.Var
@[go_sem] def b0B:ACode:=q' 2 [ao (.box 1 (.t 0)),ao (.box 3 (.t 1)),aw [.i .i64,.s],ao (.mov (bb false))] (.seq (q' 6 [aG 0 3,ao (.bin .eql (.t 7) (.k (.v false [.c (.s [])])))]
 (.cond (.t 8) (q' 9 [af 1 3,aE 2,aS 2 4 10,ab 5 true] .ret) .skip)) (q' 11 [ae 1 2,aG 0 3,ac 314 [11,13],ao (.ext (.t 14) 0),ao (.ext (.t 14) 1),aS 2 4 15,aV
 5] .ret))
theorem b3Q (e:e8) (t:c8):Z9 Tryz.prog 197 [(true,[.sl false [.s [],.i .i64 0,.s []] (e.Binds.map d4.cells)]),(true,[.s t.Var,.i .i64 t.Val.N,.s t.Val.S])] [] (.tup [(true,[.i .i64 (((j4 e t).1).N),.s (((j4 e t).1).S)]),(false,[.b ((j4 e t).2)])]):=by
 refine sx' false false none Tryz.func197 b0B [.c 4 true 2,.t 5] [(314,[],a7B)] ?_
 intro hb hE
 simp only [go_sem];(repeat' first | apply CJ.mk | intro hc);all_goals try exact om'
 all_goals (first | (rw [j4,hc];exact ⟨⟨rfl,rfl⟩,rfl⟩))
noncomputable def a1O:CT:=i3 (fun (x:e8×c8)=>b3Q x.1 x.2)
@[go_sem] def c2T:=fun x0 x1 x2 x3=>nm' (fQ' a1O rfl (⟨x0⟩,⟨x1,⟨x2,x3⟩⟩))
def k9 (e:e8) (args:List c8):d6×Bool:=bif args.all (fun t=>(j4 e t).2) then (⟨args.map fun t=>(j4 e t).1⟩,true) else (default,false)
theorem a2E {α β:Type} (f:α→β) {l:List α} {i:Nat} {d:α} (h:i < l.length):(l.take i).map f++[f (l.getD i d)]=(l.take (i+1)).map f:=by
 rw [List.take_add_one,List.map_append,List.getD_eq_getElem?_getD,List.getElem?_eq_getElem h]
 rfl
@[go_sem] def b7y:ACode:=q' 2 [ao (.box 1 (.t 0)),ax (w' 4 [.sl [.i .i64 0,.s []]]),ab 5 false] (q' 6 [ax (o' 11 (.bld [.sl [.i .i64 0,.s []]] [])),aw [.sl [.i .i64 0,.s []]],aS 1 6
 11] (.seq (q' 12 [am 1,aN,aK 0] (.block 0 (.loop (q' 15 [ar 14 13] (.seq (.cond (.t 15) .skip (.exit 0)) (.seq (.block 1 (q' 16 [ai 3 12 14,aE 3,ax (w' 8 [.s,
 .i .i64,.s]),aS 3 8 17] (q' 19 [ae 1 2,ae 3 8,ac 197 [19,20],aV 18,ao (.ext (.t 18) 0),ao (.ext (.t 18) 1),ax (w' 9 [.i .i64,.s]),aS 2 9 22,aV 10] (.seq (q'
 24 [am 10,ao (.not (.t 24))] (.cond (.t 25) (q' 26 [ao (.bld [.sl [.i .i64 0,.s []]] []),aS 1 4 26,ab 5 false] .ret) .skip)) (g' 27 [aG 0 6,ae 2 9,ao (.bsl 2
 1 [.i .i64,.s] [(0,.t 29)]),ao (.app 2 24 [.i .i64,.s] (.t 28) (.t 30)),af 0 6,aS 1 32 31]))))) (g' 33 [aA 14]))))))) (q' 34 [ae 1 6,aS 1 4 34,ab 5 true]
 .ret)))
theorem c0a (e:e8) (args:List c8) (hpre:args.length≤6):Z9 Tryz.prog 93 [(true,[.sl false [.s [],.i .i64 0,.s []] (e.Binds.map d4.cells)]),(false,[.sl false [.s [],.i .i64 0,.s []] (args.map c8.cells)])] [] (.tup [(true,[.sl true [.i .i64 0,.s []] ((((k9 e args).1).V).map c7.cells)]),(false,[.b ((k9 e args).2)])]):=by
 refine sx' true false none Tryz.func93 b7y [.c 4 true 1,.t 5] [(197,[],a1O)] ?_
 intro hb hE
 simp only [go_sem,List.length_take];(repeat' first | apply CJ.mk | intro hc);all_goals try exact om'
 refine lk' true [(true,12,0,3968)] [2,4,6,12,13] [4] [] (fun i:{i:Nat // i≤args.length∧(args.take i).all (fun t=>(j4 e t).2)=true}=>[(14,slV (.i .i64 i.1))]) (fun i=>[(8,[.nl [.i .i64 0,.s []]]),(12,[.ow 3968])]) (fun i=>[(3968,[.i .i64 0,.s []],((args.take i.1).map fun t=>(j4 e t).1).map c7.cells)]) (fun i=>args.length - i.1) (⟨0,by simp⟩) ?_
 intro S0 hS0 i
 obtain ⟨i,hi,ha⟩:=i
 simp only [go_sem,List.length_take,hS0];(repeat' first | apply CJ.mk | intro hc);all_goals try exact om'
 ·rw [k9,all_false (p:=fun t=>(j4 e t).2) (d:=default) (i:=i) (by omega) hc];exact ⟨rfl,rfl⟩
 ·(refine lpK_n2 (⟨i+1,by omega,by rw [A6T (d:=default) (by omega),ha,hc];rfl⟩) _ (by simp only [go_sem,List.length_take];try rfl) ?_;simp only [go_sem,List.length_take,hS0];first | done | ((repeat' apply And.intro)<;>try exact on'))
  all_goals (rw [← a2E (fun t=>(j4 e t).1) (d:=default) (show i < args.length by omega)])
 ·rw [k9,all_of_take (by omega) ha,List.take_of_length_le (by omega)];exact ⟨rfl,rfl⟩
noncomputable def a4t:CT:=l5 (fun (x:e8×(List c8)) h=>c0a x.1 x.2 h)
@[go_sem] def c7w:=fun x0 x1=>nm' (fP' a4t rfl (⟨x0⟩,x1))
@[go_sem] def b1i:ACode:=q' 2 [ao (.box 1 (.t 0)),ax (w' 4 [.sl [.i .i64 0,.s []]]),ab 5 false] (q' 6 [ax (o' 12 (.bld [.sl [.i .i64 0,.s []]] [])),aw [.sl [.i .i64 0,.s []]],aS 1 6
 12] (.seq (q' 13 [am 1,aN,aK 0] (.block 0 (.loop (q' 16 [ar 15 14] (.seq (.cond (.t 16) .skip (.exit 0)) (.seq (.block 1 (q' 17 [ai 3 13 15,aE 3,ax (w' 8 [.s,
 .i .i64,.s]),aS 3 8 18] (q' 19 [af 1 8,aE 2,ax (w' 9 [.i .i64,.s]),aS 2 9 20] (.seq (q' 21 [aG 0 8,ao (.bin .neq (.t 22) (.k (.v false [.c (.s [])])))]
 (.cond (.t 23) (q' 25 [ae 1 2,aG 0 8,ac 259 [25,27],aV 24,ao (.ext (.t 24) 0),ao (.ext (.t 24) 1),ax (w' 10 [.i .i64,.s]),aS 2 10 29,aV 11] (.seq (q' 31 [am
 11,ao (.not (.t 31))] (.cond (.t 32) (q' 33 [ao (.bld [.sl [.i .i64 0,.s []]] []),aS 1 4 33,ab 5 false] .ret) .skip)) (g' 34 [ae 2 10,aS 2 9 34]))) .skip))
 (g' 35 [aG 0 6,ae 2 9,ao (.bsl 2 1 [.i .i64,.s] [(0,.t 37)]),ao (.app 2 24 [.i .i64,.s] (.t 36) (.t 38)),af 0 6,aS 1 40 39]))))) (g' 41 [aA 15]))))))) (q'
 42 [ae 1 6,aS 1 4 42,ab 5 true] .ret)))
theorem b4w (e:e8) (args:List c8) (hpre:args.length≤6):Z9 Tryz.prog 145 [(true,[.sl false [.s [],.i .i64 0,.s []] (e.Binds.map d4.cells)]),(false,[.sl false [.s [],.i .i64 0,.s []] (args.map c8.cells)])] [] (.tup [(true,[.sl true [.i .i64 0,.s []] ((((k9 e args).1).V).map c7.cells)]),(false,[.b ((k9 e args).2)])]):=by
 refine sx' true false none Tryz.func145 b1i [.c 4 true 1,.t 5] [(259,[],a2D)] ?_
 intro hb hE
 simp only [go_sem,List.length_take];(repeat' first | apply CJ.mk | intro hc);all_goals try exact om'
 refine lk' true [(true,12,0,4992)] [2,4,6,13,14] [4] [] (fun i:{i:Nat // i≤args.length∧(args.take i).all (fun t=>(j4 e t).2)=true}=>[(15,slV (.i .i64 i.1))]) (fun i=>[(8,[.nl [.i .i64 0,.s []]]),(12,[.ow 4992])]) (fun i=>[(4992,[.i .i64 0,.s []],((args.take i.1).map fun t=>(j4 e t).1).map c7.cells)]) (fun i=>args.length - i.1) (⟨0,by simp⟩) ?_
 intro S0 hS0 i
 obtain ⟨i,hi,ha⟩:=i
 simp only [go_sem,List.length_take,hS0];(repeat' first | apply CJ.mk | intro hc);all_goals try exact om'
 ·rename_i h1
  have hv:j4 e (args.getD i default)=o7 e (args.getD i default).Var:=by
   have:((args.getD i default).Var==[])=false:=by simpa using h1
   rw [j4,this];rfl
  rw [k9,all_false (p:=fun t=>(j4 e t).2) (d:=default) (i:=i) (by omega) (by simp only [hv];exact hc)];exact ⟨rfl,rfl⟩
 ·rename_i h1
  have hv:j4 e (args.getD i default)=o7 e (args.getD i default).Var:=by
   have:((args.getD i default).Var==[])=false:=by simpa using h1
   rw [j4,this];rfl
  (refine lpK_n2 (⟨i+1,by omega,by rw [A6T (d:=default) (by omega),ha,hv,hc];rfl⟩) _ (by simp only [go_sem,List.length_take];try rfl) ?_;simp only [go_sem,List.length_take,hS0];first | done | ((repeat' apply And.intro)<;>try exact on'))
  all_goals (rw [← a2E (fun t=>(j4 e t).1) (d:=default) (show i < args.length by omega),hv])
 ·have hv:j4 e (args.getD i default)=((args.getD i default).Val,true):=by
   have:((args.getD i default).Var==[])=true:=by simpa using hc
   rw [j4,this];rfl
  (refine lpK_n2 (⟨i+1,by omega,by rw [A6T (d:=default) (by omega),ha,hv];rfl⟩) _ (by simp only [go_sem,List.length_take];try rfl) ?_;simp only [go_sem,List.length_take,hS0];first | done | ((repeat' apply And.intro)<;>try exact on'))
  all_goals (rw [← a2E (fun t=>(j4 e t).1) (d:=default) (show i < args.length by omega),hv])
 ·rw [k9,all_of_take (by omega) ha,List.take_of_length_le (by omega)];exact ⟨rfl,rfl⟩
noncomputable def a4X:CT:=l5 (fun (x:e8×(List c8)) h=>b4w x.1 x.2 h)
@[go_sem] def c3z:=fun x0 x1=>nm' (fP' a4X rfl (⟨x0⟩,x1))
end Go.Aw
