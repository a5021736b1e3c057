/- Good programs. No condition. -/
import Derived.Test.YtdfnhhecaaaoaaaGreatyaT15
import Derived.Test.YtdfnhhecaaaoaaaGreatyaT18
import Derived.Test.YtdfnhhecaaaoaaaGreatyaT9
namespace Go.Aw
open Go.Proofs
attribute [local irreducible] aft blk lpK retK AW Z9
set_option linter.all false
set_option maxRecDepth 100000
noncomputable def a2X (p:c4):Bool:=(y3 p).2&&a0q p==-1
theorem a8e {p:c4} (h:(y3 p).2=true):((i4 p).1==0)=true:=by
 cases e:((i4 p).1==0) with
 | true=>rfl
 | false=>rw [y3,e,cond_false] at h;exact h
theorem a1j {p:c4} (h:a2X p=true):((i4 p).1==0)=true:=by
 rw [a2X,Bool.and_eq_true] at h
 exact a8e h.1
@[go_sem] def b7s:ACode:=q' 0 [ax (o' 1 (.box 2 (.t 0))),ab 2 false] (q' 6 [ae 2 1,ac 121 [6],aV 5,ao (.ext (.t 5) 0),ao (.ext (.t 5) 1),av 3 8,aV 4] (q' 10 [aM [4,10],au (.ld true 2
 (.t 1)) 11 true,au (.call 235 [.t 12]) 11 true,au (.bin .eql (.t 13) (.k (.v false [.c (.i .i64 (-1))]))) 11 true,ao (.pick (.t 11) (.t 14) (bb false)),aV 2]
 .ret))
theorem b9R (p:c4):Z9 Tryz.prog 119 [(true,[.sl false [.i .i64 0,.s [],.i .i64 0] (p.Decls.map d8.cells),.sl false [.i .i64 0,.s [],.sl false [.s [],.i .i64 0,.s []] [],.sl false [.i .i64 0,.s [],.sl false [.s [],.i .i64 0,.s []] [],.i .i64 0,.s [],.i .i64 0,.s [],.s [],.i .i64 0,.s []] []] (p.Rules.map (c6.cells false false))])] [] (.one (false,[.b (a2X p)])):=by
 refine sx' false false none Tryz.func119 b7s [.t 2] [(121,[],a5G),(235,[],a2J)] ?_
 intro hb hE
 simp only [go_sem];(repeat' first | apply CJ.mk | intro hc);all_goals try exact om'
 all_goals (first | rfl)
noncomputable def a9U:CT:=i3 (fun (x:c4)=>b9R x)
@[go_sem] def c7o:=fun x0 x1=>nm' (fQ' a9U rfl ⟨x0,x1⟩)
@[go_sem] def b7y:ACode:=q' 0 [ax (o' 1 (.box 2 (.t 0))),ab 2 false] (q' 8 [ae 2 1,ac 230 [8],aV 7,ao (.ext (.t 7) 0),ao (.ext (.t 7) 1),av 3 10,aV 4] (q' 13 [ae 2 1,ac 117 [13],aV
 12,ao (.ext (.t 12) 0),ao (.ext (.t 12) 1),av 5 15,aV 6] (q' 17 [am 3,ao (.bin .eql (.t 17) (k' 0)),am 18,au (.ld true 2 (.t 1)) 19 true,au (.call 231 [.t
 20]) 19 true,au (.bin .eql (.t 21) (.k (.v false [.c (.i .i64 (-1))]))) 19 true,ao (.pick (.t 19) (.t 22) (bb false)),am 23,au (.mov (.t 6)) 24 true,ao (.pick
 (.t 24) (.t 25) (bb false)),aV 2] .ret)))
theorem b9W (p:c4):Z9 Tryz.prog 115 [(true,[.sl false [.i .i64 0,.s [],.i .i64 0] (p.Decls.map d8.cells),.sl false [.i .i64 0,.s [],.sl false [.s [],.i .i64 0,.s []] [],.sl false [.i .i64 0,.s [],.sl false [.s [],.i .i64 0,.s []] [],.i .i64 0,.s [],.i .i64 0,.s [],.s [],.i .i64 0,.s []] []] (p.Rules.map (c6.cells false false))])] [] (.one (false,[.b (a2X p)])):=by
 refine sx' false false none Tryz.func115 b7y [.t 2] [(230,[],a0C),(117,[],a5Z),(231,[],a2R)] ?_
 intro hb hE
 simp only [go_sem];(repeat' first | apply CJ.mk | intro hc);all_goals try exact om'
 all_goals (first | (rw [a2X];cases h1:((i4 p).1==0)<;>cases h2:(y3 p).2<;>cases h3:(a0q p==-1)<;>first | rfl | (rw [a8e h2] at h1;cases h1)))
noncomputable def a9W:CT:=i3 (fun (x:c4)=>b9W x)
@[go_sem] def c7t:=fun x0 x1=>nm' (fQ' a9W rfl ⟨x0,x1⟩)
end Go.Aw
