/- The law of lists of steps. No condition. -/
import Derived.Test.YtdfnhhecaaaoaaaGreatybT43
import Derived.Test.YtdfnhhecaaaoaaaGreatybB0
import Derived.Test.YtdfnhhecaaaoaaaGreatybB3
import Derived.Test.YtdfnhhecaaaoaaaGreatybB4
namespace Go.Aw
open Go.Proofs
attribute [local irreducible] aft blk lpK retK AW Z9
set_option linter.all false
set_option maxRecDepth 100000
@[go_sem] def a1X:ACode:=q' 4 [ao (.box 2 (.t 0)),ao (.box 1 (.t 1)),ao (.box 1 (.t 2)),ab 8 false] (q' 9 [aK 1048576] (q' 16 [ae 2 4,am 9,ac 33 [16,17],aV 9] (.seq (q' 19 [am 9,ao
 (.bin .lss (.t 19) (k' 0))] (.cond (.t 20) (q' 0 [ab 8 true] .ret) .skip)) (q' 21 [ae 1 5,am 9,ac 14 [21,22],aV 9] (.seq (q' 24 [am 9,ao (.bin .lss (.t 24)
 (k' 0))] (.cond (.t 25) (q' 0 [ab 8 true] .ret) .skip)) (q' 26 [ae 1 6,am 9,ac 14 [26,27],aV 9] (.seq (q' 29 [am 9,ao (.bin .lss (.t 29) (k' 0))] (.cond (.t
 30) (q' 0 [ab 8 true] .ret) .skip)) (q' 31 [aM [3,9],ac 34 [31,32],aV 9] (.seq (q' 34 [am 9,ao (.bin .lss (.t 34) (k' 0))] (.cond (.t 35) (q' 0 [ab 8 true]
 .ret) .skip)) (.seq (G' 36 [ae 2 4,ac 37 [36],ae 1 5,ac 17 [38],ae 1 6,ac 17 [40],am 3,ac 38 [42],ac 44 [37,39,41,43],aV 10]) (q' 45 [ae 2 4,ac 37 [45],ax (w'
 11 [.sl [.i .i64 0,.s [],.i .i64 0],.sl [.i .i64 0,.s [],.sl false [.s [],.i .i64 0,.s []] [],.sl false [.i .i64 0,.s [],.sl false [.s [],.i .i64
 0,.s []] [],.i .i64 0,.s [],.i .i64 0,.s [],.s [],.i .i64 0,.s []] []]]),aS 2 11 46] (q' 47 [ae 1 5,ac 17 [47],ax (w' 12 [.sl [.s [],.i .i64 0,.sl
 false [.sl false [.i .i64 0,.s []] []] []]]),aS 1 12 48] (q' 49 [ae 1 6,ac 17 [49],ax (w' 13 [.sl [.s [],.i .i64 0,.sl false [.sl false [.i .i64 0,.s []]
 []] []]]),aS 1 13 50] (q' 51 [am 3,ac 38 [51],aV 14] (q' 53 [ae 2 11,ae 1 12,ae 1 13,am 14,ac 45 [53,54,55,56],aV 15] (.seq (q' 58 [aM [15,10],ao (.bin .neq
 (.t 58) (.t 59))] (.cond (.t 60) (q' 0 [ab 8 false] .ret) .skip)) (.seq (.seq (G' 61 [ae 2 11,ae 2 4,ac 37 [62],ac 41 [61,63],ao (.not (.t 64))]) (.cond (.t
 65) (q' 0 [ab 8 false] .ret) .skip)) (.seq (.seq (G' 66 [ae 1 12,ae 1 5,ac 17 [67],ac 21 [66,68],ao (.not (.t 69))]) (.cond (.t 70) (q' 0 [ab 8 false] .ret)
 .skip)) (.seq (.seq (G' 71 [ae 1 13,ae 1 6,ac 17 [72],ac 21 [71,73],ao (.not (.t 74))]) (.cond (.t 75) (q' 0 [ab 8 false] .ret) .skip)) (.seq (q' 76 [aM
 [14,3],ac 38 [77],ac 42 [76,78],ao (.not (.t 79))] (.cond (.t 80) (q' 0 [ab 8 false] .ret) .skip)) (q' 0 [ab 8 true] .ret)))))))))))))))))))))
theorem a0i (p:c4) (s:d8) (v:d8) (l:List d9):Z9 Tryz.prog 7 [(true,[.sl false [.i .i64 0,.s [],.i .i64 0] (p.Decls.map d7.cells),.sl false [.i .i64 0,.s [],.sl false [.s [],.i .i64 0,.s []] [],.sl false [.i .i64 0,.s [],.sl false [.s [],.i .i64 0,.s []] [],.i .i64 0,.s [],.i .i64 0,.s [],.s [],.i .i64 0,.s []] []] (p.Rules.map (c6.cells false false))]),(true,[.sl false [.s [],.i .i64 0,.sl false [.sl false [.i .i64 0,.s []] []] []] (s.Rels.map (c9.cells false false))]),(true,[.sl false [.s [],.i .i64 0,.sl false [.sl false [.i .i64 0,.s []] []] []] (v.Rels.map (c9.cells false false))]),(false,[.sl false [.s [],.sl false [.i .i64 0,.s []] [],.i .i64 0,.sl false [.s [],.i .i64 0,.s []] []] (l.map (d9.cells false false))])] [] (.one (false,[.b true])):=by
 refine sx' false false none Tryz.func7 a1X [.t 8] [(33,[],a2P),(14,[],a4J),(34,[],a4I),(37,[],a2Q),(17,[],a4Q),(38,[],a4P),(44,[],a2f),(45,[],a2a),(41,[],a2O),(21,[],a4C),(42,[],a4B)] ?_
 intro hb hE
 simp only [go_sem];(repeat' first | apply CJ.mk | intro hc);all_goals try exact om'
 all_goals (first | exact (hc trivial).elim | (exfalso;simp at hc;done) | ((try simp only [szR] at *)<;>omega))
noncomputable def a2t:CT:=i3 (fun (x:c4×d8×d8×(List d9))=>a0i x.1 x.2.1 x.2.2.1 x.2.2.2)
@[go_sem] def b1R:=fun x0 x1 x2 x3 l=>nm' (fQ' a2t rfl (⟨x0,x1⟩,⟨x2⟩,⟨x3⟩,l))
end Go.Aw
