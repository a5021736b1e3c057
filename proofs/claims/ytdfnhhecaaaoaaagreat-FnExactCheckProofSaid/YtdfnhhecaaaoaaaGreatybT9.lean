/- The first rule with a variable that no literal binds. No condition. -/
import Derived.Test.YtdfnhhecaaaoaaaGreatybT8
namespace Go.Aw
open Go.Proofs
attribute [local irreducible] aft blk lpK retK AW Z9
set_option linter.all false
set_option maxRecDepth 100000
noncomputable def a3v (r:c6):Bool:=decide ((0:Int) < (a8k r).length)
noncomputable def a0u (p:c4):Int:=bif m9 p then a0H a3v p.Rules else -2
@[go_sem] def a5x:ACode:=q' 0 [ax (o' 1 (.box 4 (.t 0))),ab 2 false] (q' 3 [ae 4 1,ac 69 [3],aN,ao (.bin .gtr (.t 5) (k' 0)),aV 2] .ret)
theorem a6K (r:c6):Z9 Tryz.prog 335 [(true,[.i .i64 r.Kind,.s r.Head.Name,.sl false [.s [],.i .i64 0,.s []] (r.Head.Args.map c8.cells),.sl false [.i .i64 0,.s [],.sl false [.s [],.i .i64 0,.s []] [],.i .i64 0,.s [],.i .i64 0,.s [],.s [],.i .i64 0,.s []] (r.Body.map (d5.cells false false))])] [] (.one (false,[.b (a3v r)])):=by
 refine sx' false false none Tryz.func335 a5x [.t 2] [(69,[],a2L)] ?_
 intro hb hE
 simp only [go_sem];(repeat' first | apply CJ.mk | intro hc);all_goals try exact om'
 all_goals (first | rfl)
noncomputable def a1F:CT:=i3 (fun (x:c6)=>a6K x)
@[go_sem] def b8H:=fun x0 x1 x2 x3=>nm' (fQ' a1F rfl ⟨x0,⟨x1,x2⟩,x3⟩)
theorem b7X (l:List c6):Z9 Tryz.prog 334 [(false,[.sl false [.i .i64 0,.s [],.sl false [.s [],.i .i64 0,.s []] [],.sl false [.i .i64 0,.s [],.sl false [.s [],.i .i64 0,.s []] [],.i .i64 0,.s [],.i .i64 0,.s [],.s [],.i .i64 0,.s []] []] (l.map (c6.cells false false))]),(false,[.f 335 []])] [] (.one (false,[.i .i64 (a0H (fun y=>a3v y) l)])):=by
 refine sx' false false none Tryz.func334 b1Z [.t 4] [(335,[],a1F)] ?_
 intro hb hE
 simp only [go_sem];(repeat' first | apply CJ.mk | intro hc);all_goals try exact om'
 refine lq' false [0,1,7] [] [] (fun i:{i:Nat // i≤l.length∧(l.take i).any (fun y=>a3v y)=false}=>[(8,slV (.i .i64 i.1))]) nl' nl' (fun i=>l.length - i.1) (⟨0,by simp⟩) ?_
 intro S0 hS0 i
 obtain ⟨i,hi,ha⟩:=i
 simp only [go_sem,hS0];(repeat' first | apply CJ.mk | intro hc);all_goals try exact om'
 ·exact (o0 (p:=fun y=>a3v y) (d:=default) (by omega) ha (by simpa [-List.getD_eq_getElem?_getD] using hc)).symm
 ·exact nx0 ⟨i+1,by omega,j5 (p:=fun y=>a3v y) default (by omega) ha (by simpa [-List.getD_eq_getElem?_getD] using hc)⟩
 ·exact (n9 (by rwa [f9 (by omega)] at ha)).symm
noncomputable def a7t:CT:=i3 (fun (x:(List c6))=>b7X x)
@[go_sem] def c6d:=fun l=>nm' (fQ' a7t rfl l)
@[go_sem] def a6S:ACode:=q' 1 [ao (.box 2 (.t 0)),aK 0] (.seq (q' 3 [ae 2 1,ac 333 [3],ao (.not (.t 4))] (.cond (.t 5) (q' 2 [ao (.mov (.k (.v false [.c (.i .i64 (-2))])))] .ret)
 .skip)) (q' 6 [aG 1 1,ao (.call 334 [.t 7,.k (.v false [.c (.f 335 [])])]),aV 2] .ret))
theorem a9s (p:c4):Z9 Tryz.prog 235 [(true,[.sl false [.i .i64 0,.s [],.i .i64 0] (p.Decls.map d7.cells),.sl false [.i .i64 0,.s [],.sl false [.s [],.i .i64 0,.s []] [],.sl false [.i .i64 0,.s [],.sl false [.s [],.i .i64 0,.s []] [],.i .i64 0,.s [],.i .i64 0,.s [],.s [],.i .i64 0,.s []] []] (p.Rules.map (c6.cells false false))])] [] (.one (false,[.i .i64 (a0u p)])):=by
 refine sx' false false none Tryz.func235 a6S [.t 2] [(333,[],a0U),(334,[],a7t)] ?_
 intro hb hE
 simp only [go_sem];(repeat' first | apply CJ.mk | intro hc);all_goals try exact om'
 all_goals (have h9:m9 p=_:=hc;rw [a0u,h9];first | rfl)
noncomputable def a2K:CT:=i3 (fun (x:c4)=>a9s x)
@[go_sem] def c0A:=fun x0 x1=>nm' (fQ' a2K rfl ⟨x0,x1⟩)
@[go_sem] def a7c:ACode:=q' 1 [ao (.box 2 (.t 0)),aK 0] (.seq (q' 4 [ae 2 1,ac 331 [4],ao (.not (.t 5))] (.cond (.t 6) (q' 2 [ao (.mov (.k (.v false [.c (.i .i64 (-2))])))] .ret)
 .skip)) (.seq (q' 7 [aG 1 1,aN,aK 0] (.block 0 (.loop (q' 11 [ar 10 9] (.seq (.cond (.t 11) .skip (.exit 0)) (.seq (.block 1 (q' 12 [am 10,aV 3] (q' 13 [aG 1
 1,am 3,aI 4,aE 4,ac 86 [17],aN,ao (.bin .gtr (.t 19) (k' 0))] (.cond (.t 20) (q' 21 [am 3,aV 2] .ret) .skip)))) (g' 22 [aA 10]))))))) (q' 2 [ao (.mov (.k (.v
 false [.c (.i .i64 (-1))])))] .ret)))
theorem a9C (p:c4):Z9 Tryz.prog 231 [(true,[.sl false [.i .i64 0,.s [],.i .i64 0] (p.Decls.map d7.cells),.sl false [.i .i64 0,.s [],.sl false [.s [],.i .i64 0,.s []] [],.sl false [.i .i64 0,.s [],.sl false [.s [],.i .i64 0,.s []] [],.i .i64 0,.s [],.i .i64 0,.s [],.s [],.i .i64 0,.s []] []] (p.Rules.map (c6.cells false false))])] [] (.one (false,[.i .i64 (a0u p)])):=by
 refine sx' false false none Tryz.func231 a7c [.t 2] [(331,[],a0W),(86,[],a2T)] ?_
 intro hb hE
 simp only [go_sem];(repeat' first | apply CJ.mk | intro hc);all_goals try exact om'
 ·rw [a0u,hc];rfl
 have hB:m9 p=true:=hc
 clear hc
 refine lq' false [1,9] [2] [] (fun i:{i:Nat // i≤p.Rules.length∧(p.Rules.take i).any a3v=false}=>[(10,slV (.i .i64 i.1))]) nl' nl' (fun i=>p.Rules.length - i.1) (⟨0,by simp⟩) ?_
 intro S0 hS0 i
 obtain ⟨i,hi,ha⟩:=i
 simp only [go_sem,hS0];(repeat' first | apply CJ.mk | intro hc);all_goals try exact om'
 ·rw [a0u,hB,cond_true,o0 (p:=a3v) (d:=default) (i:=i) (by omega) ha (decide_eq_true hc)]
 ·exact nx0 ⟨i+1,by omega,j5 (p:=a3v) default (by omega) ha (decide_eq_false hc)⟩
 ·rw [a0u,hB,cond_true,n9 (by rwa [f9 (by omega)] at ha)]
noncomputable def a2S:CT:=i3 (fun (x:c4)=>a9C x)
@[go_sem] def c0K:=fun x0 x1=>nm' (fQ' a2S rfl ⟨x0,x1⟩)
end Go.Aw
