/- The law of steps of a proof. No condition. -/
import Derived.Test.YtdfnhhecaaaoaaaGreatyaT43
import Derived.Test.YtdfnhhecaaaoaaaGreatyaB0
import Derived.Test.YtdfnhhecaaaoaaaGreatyaB3
import Derived.Test.YtdfnhhecaaaoaaaGreatyaB4
namespace Go.Aw
open Go.Proofs
attribute [local irreducible] aft blk lpK retK AW Z9
set_option linter.all false
set_option maxRecDepth 100000
@[go_sem] def a3Z:ACode:=q' 5 [ao (.box 2 (.t 0)),ao (.box 1 (.t 1)),ao (.box 1 (.t 2)),ax (o' 9 (.box 4 (.t 4))),ab 10 false] (q' 11 [aK 1048576] (q' 19 [ae 2 5,am 11,ac 33 [19,20],aV
 11] (.seq (q' 22 [am 11,ao (.bin .lss (.t 22) (k' 0))] (.cond (.t 23) (q' 0 [ab 10 true] .ret) .skip)) (q' 24 [ae 1 6,am 11,ac 14 [24,25],aV 11] (.seq (q' 27
 [am 11,ao (.bin .lss (.t 27) (k' 0))] (.cond (.t 28) (q' 0 [ab 10 true] .ret) .skip)) (q' 29 [ae 1 7,am 11,ac 14 [29,30],aV 11] (.seq (q' 32 [am 11,ao (.bin
 .lss (.t 32) (k' 0))] (.cond (.t 33) (q' 0 [ab 10 true] .ret) .skip)) (q' 34 [aM [3,11],ac 34 [34,35],aV 11] (.seq (q' 37 [am 11,ao (.bin .lss (.t 37) (k'
 0))] (.cond (.t 38) (q' 0 [ab 10 true] .ret) .skip)) (q' 39 [ae 4 9,am 11,ac 35 [39,40],aV 11] (.seq (q' 42 [am 11,ao (.bin .lss (.t 42) (k' 0))] (.cond (.t
 43) (q' 0 [ab 10 true] .ret) .skip)) (.seq (G' 44 [ae 2 5,ac 37 [44],ae 1 6,ac 17 [46],ae 1 7,ac 17 [48],am 3,ac 38 [50],ae 4 9,ac 39 [52],ac 36
 [45,47,49,51,53],aV 12]) (q' 55 [ae 2 5,ac 37 [55],ax (w' 13 [.sl [.i .i64 0,.s [],.i .i64 0],.sl [.i .i64 0,.s [],.sl false [.s [],.i .i64 0,.s []]
 [],.sl false [.i .i64 0,.s [],.sl false [.s [],.i .i64 0,.s []] [],.i .i64 0,.s [],.i .i64 0,.s [],.s [],.i .i64 0,.s []] []]]),aS 2 13 56] (q' 57
 [ae 1 6,ac 17 [57],ax (w' 14 [.sl [.s [],.i .i64 0,.sl false [.sl false [.i .i64 0,.s []] []] []]]),aS 1 14 58] (q' 59 [ae 1 7,ac 17 [59],ax (w' 15 [.sl
 [.s [],.i .i64 0,.sl false [.sl false [.i .i64 0,.s []] []] []]]),aS 1 15 60] (q' 61 [am 3,ac 38 [61],aV 16] (q' 63 [ae 4 9,ac 39 [63],ax (w' 17 [.s,.sl
 [.i .i64 0,.s []],.i .i64,.sl [.s [],.i .i64 0,.s []]]),aS 4 17 64] (q' 65 [ae 2 13,ae 1 14,ae 1 15,am 16,ae 4 17,ac 40 [65,66,67,68,69],aV 18] (.seq (q'
 71 [aM [18,12],ao (.binb .neq (.t 71) (.t 72))] (.cond (.t 73) (q' 0 [ab 10 false] .ret) .skip)) (.seq (.seq (G' 74 [ae 2 13,ae 2 5,ac 37 [75],ac 41
 [74,76],ao (.not (.t 77))]) (.cond (.t 78) (q' 0 [ab 10 false] .ret) .skip)) (.seq (.seq (G' 79 [ae 1 14,ae 1 6,ac 17 [80],ac 21 [79,81],ao (.not (.t 82))])
 (.cond (.t 83) (q' 0 [ab 10 false] .ret) .skip)) (.seq (.seq (G' 84 [ae 1 15,ae 1 7,ac 17 [85],ac 21 [84,86],ao (.not (.t 87))]) (.cond (.t 88) (q' 0 [ab 10
 false] .ret) .skip)) (.seq (q' 89 [aM [16,3],ac 38 [90],ac 42 [89,91],ao (.not (.t 92))] (.cond (.t 93) (q' 0 [ab 10 false] .ret) .skip)) (.seq (.seq (G' 94
 [ae 4 17,ae 4 9,ac 39 [95],ac 43 [94,96],ao (.not (.t 97))]) (.cond (.t 98) (q' 0 [ab 10 false] .ret) .skip)) (q' 0 [ab 10 true] .ret)))))))))))))))))))))))))
theorem a1k (p:c4) (s:d9) (v:d9) (done:List e7) (x:e7):Z9 Tryz.prog 6 [(true,[.sl false [.i .i64 0,.s [],.i .i64 0] (p.Decls.map d8.cells),.sl false [.i .i64 0,.s [],.sl false [.s [],.i .i64 0,.s []] [],.sl false [.i .i64 0,.s [],.sl false [.s [],.i .i64 0,.s []] [],.i .i64 0,.s [],.i .i64 0,.s [],.s [],.i .i64 0,.s []] []] (p.Rules.map (c6.cells false false))]),(true,[.sl false [.s [],.i .i64 0,.sl false [.sl false [.i .i64 0,.s []] []] []] (s.Rels.map (c9.cells false false))]),(true,[.sl false [.s [],.i .i64 0,.sl false [.sl false [.i .i64 0,.s []] []] []] (v.Rels.map (c9.cells false false))]),(false,[.sl false [.s [],.sl false [.i .i64 0,.s []] [],.i .i64 0,.sl false [.s [],.i .i64 0,.s []] []] (done.map (e7.cells false false))]),(true,[.s x.Name,.sl false [.i .i64 0,.s []] (x.Row.V.map c7.cells),.i .i64 x.Rule,.sl false [.s [],.i .i64 0,.s []] (x.Env.Binds.map d5.cells)])] [] (.one (false,[.b true])):=by
 refine sx' false false none Tryz.func6 a3Z [.t 10] [(33,[],a2O),(14,[],a4J),(34,[],a4I),(35,[],a2u),(37,[],a2P),(17,[],a4Q),(38,[],a4P),(39,[],a2x),(36,[],a6a),(40,[],a5H),(41,[],a2N),(21,[],a4C),(42,[],a4B),(43,[],a2r)] ?_
 intro hb hE
 simp only [go_sem];(repeat' first | apply CJ.mk | intro hc);all_goals try exact om'
 all_goals (first | exact (hc trivial).elim | (exfalso;simp at hc;done) | ((try simp only [szR] at *)<;>omega))
noncomputable def a4w:CT:=i3 (fun (x:c4×d9×d9×(List e7)×e7)=>a1k x.1 x.2.1 x.2.2.1 x.2.2.2.1 x.2.2.2.2)
@[go_sem] def b6K:=fun x0 x1 x2 x3 x4 x5 x6 x7 x8=>nm' (fQ' a4w rfl (⟨x0,x1⟩,⟨x2⟩,⟨x3⟩,x4,⟨x5,⟨x6⟩,x7,⟨x8⟩⟩))
end Go.Aw
