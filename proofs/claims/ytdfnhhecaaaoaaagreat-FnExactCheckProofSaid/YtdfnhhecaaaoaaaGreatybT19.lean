/- Good programs. No condition. -/
import Derived.Test.YtdfnhhecaaaoaaaGreatybT15
import Derived.Test.YtdfnhhecaaaoaaaGreatybT18
import Derived.Test.YtdfnhhecaaaoaaaGreatybT9
namespace Go.Aw
open Go.Proofs
attribute [local irreducible] aft blk lpK retK AW Z9
set_option linter.all false
set_option maxRecDepth 100000
noncomputable def a2Y (p:c4):Bool:=(y4 p).2&&a0u p==-1
theorem a8j {p:c4} (h:(y4 p).2=true):((i4 p).1==0)=true:=by
 cases e:((i4 p).1==0) with
 | true=>rfl
 | false=>rw [y4,e,cond_false] at h;exact h
theorem a1k {p:c4} (h:a2Y p=true):((i4 p).1==0)=true:=by
 rw [a2Y,Bool.and_eq_true] at h
 exact a8j h.1
@[go_sem] def b7w:ACode:=q' 0 [ax (o' 1 (.box 2 (.t 0))),ab 2 false] (q' 6 [ae 2 1,ac 121 [6],aV 5,ao (.ext (.t 5) 0),ao (.ext (.t 5) 1),av 3 8,aV 4] (q' 10 [aM [4,10],au (.ld true 2
 (.t 1)) 11 true,au (.call 235 [.t 12]) 11 true,au (.bin .eql (.t 13) (.k (.v false [.c (.i .i64 (-1))]))) 11 true,ao (.pick (.t 11) (.t 14) (bb false)),aV 2]
 .ret))
theorem b9Y (p:c4):Z9 Tryz.prog 119 [(true,[.sl false [.i .i64 0,.s [],.i .i64 0] (p.Decls.map d7.cells),.sl false [.i .i64 0,.s [],.sl false [.s [],.i .i64 0,.s []] [],.sl false [.i .i64 0,.s [],.sl false [.s [],.i .i64 0,.s []] [],.i .i64 0,.s [],.i .i64 0,.s [],.s [],.i .i64 0,.s []] []] (p.Rules.map (c6.cells false false))])] [] (.one (false,[.b (a2Y p)])):=by
 refine sx' false false none Tryz.func119 b7w [.t 2] [(121,[],a5G),(235,[],a2K)] ?_
 intro hb hE
 simp only [go_sem];(repeat' first | apply CJ.mk | intro hc);all_goals try exact om'
 all_goals (first | rfl)
noncomputable def b0a:CT:=i3 (fun (x:c4)=>b9Y x)
@[go_sem] def c7u:=fun x0 x1=>nm' (fQ' b0a rfl ⟨x0,x1⟩)
@[go_sem] def b7C:ACode:=q' 0 [ax (o' 1 (.box 2 (.t 0))),ab 2 false] (q' 8 [ae 2 1,ac 230 [8],aV 7,ao (.ext (.t 7) 0),ao (.ext (.t 7) 1),av 3 10,aV 4] (q' 13 [ae 2 1,ac 117 [13],aV
 12,ao (.ext (.t 12) 0),ao (.ext (.t 12) 1),av 5 15,aV 6] (q' 17 [am 3,ao (.bin .eql (.t 17) (k' 0)),am 18,au (.ld true 2 (.t 1)) 19 true,au (.call 231 [.t
 20]) 19 true,au (.bin .eql (.t 21) (.k (.v false [.c (.i .i64 (-1))]))) 19 true,ao (.pick (.t 19) (.t 22) (bb false)),am 23,au (.mov (.t 6)) 24 true,ao (.pick
 (.t 24) (.t 25) (bb false)),aV 2] .ret)))
theorem c0d (p:c4):Z9 Tryz.prog 115 [(true,[.sl false [.i .i64 0,.s [],.i .i64 0] (p.Decls.map d7.cells),.sl false [.i .i64 0,.s [],.sl false [.s [],.i .i64 0,.s []] [],.sl false [.i .i64 0,.s [],.sl false [.s [],.i .i64 0,.s []] [],.i .i64 0,.s [],.i .i64 0,.s [],.s [],.i .i64 0,.s []] []] (p.Rules.map (c6.cells false false))])] [] (.one (false,[.b (a2Y p)])):=by
 refine sx' false false none Tryz.func115 b7C [.t 2] [(230,[],a0E),(117,[],a6b),(231,[],a2S)] ?_
 intro hb hE
 simp only [go_sem];(repeat' first | apply CJ.mk | intro hc);all_goals try exact om'
 all_goals (first | (rw [a2Y];cases h1:((i4 p).1==0)<;>cases h2:(y4 p).2<;>cases h3:(a0u p==-1)<;>first | rfl | (rw [a8j h2] at h1;cases h1)))
noncomputable def b0c:CT:=i3 (fun (x:c4)=>c0d x)
@[go_sem] def c7z:=fun x0 x1=>nm' (fQ' b0c rfl ⟨x0,x1⟩)
end Go.Aw
