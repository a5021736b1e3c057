/- States that fit a program. No condition. -/
import Derived.Test.YtdfnhhecaaaoaaaGreatybT23
import Derived.Test.YtdfnhhecaaaoaaaGreatybT19
import Derived.Test.YtdfnhhecaaaoaaaGreatybT5
namespace Go.Aw
open Go.Proofs
attribute [local irreducible] aft blk lpK retK AW Z9
set_option linter.all false
set_option maxRecDepth 100000
def b4G (a b:List c9) (i:Nat):Bool:=!((a.getD i default).Name==(b.getD i default).Name) || !((a.getD i default).Rel.Arity==(b.getD i default).Rel.Arity)
def a0j (a b:List c9):Bool:=decide (a.length=b.length)&&!a0T a.length (b4G a b)
noncomputable def a5j (p:c4) (s:d8):Bool:=a2Y p&&s9 s&&a0j s.Rels (p8 (a0v p 1))
@[go_sem] def a6W:ACode:=q' 2 [ao (.box 1 (.t 0)),ao (.box 1 (.t 1)),ao (.mov (bb false))] (.seq (q' 7 [aG 0 2,aN,aG 0 3,aN,ao (.bin .neq (.t 9) (.t 12))] (.cond (.t 13) (q' 0 [ab 4
 false] .ret) .skip)) (.seq (q' 14 [aG 0 2,aN,aK 0] (.block 0 (.loop (q' 18 [ar 17 16] (.seq (.cond (.t 18) .skip (.exit 0)) (.seq (.block 1 (q' 19 [am 17,ai 3
 15 17,aE 3,ax (w' 6 [.s,.i .i64,.sl [.sl false [.i .i64 0,.s []] []]]),av 5 19,aS 3 6 21] (.seq (G' 22 [aG 0 6,aG 0 3,am 5,aI 3,aG 0 27,ao (.bin .neq (.t
 23) (.t 29)),am 30,au (.fa 1 (.t 6)) 31 false,au (.fa 0 (.t 32)) 31 false,au (.ld false 1 (.t 33)) 31 false,au (.fa 0 (.t 3)) 31 false,au (.ld false 1 (.t
 35)) 31 false,au (.mov (.t 5)) 31 false,au (.ia 3 (.t 36) (.t 37)) 31 false,au (.fa 1 (.t 38)) 31 false,au (.fa 0 (.t 39)) 31 false,au (.ld false 1 (.t 40))
 31 false,au (.bin .neq (.t 34) (.t 41)) 31 false,ao (.pick (.t 31) (bb true) (.t 42))]) (.cond (.t 43) (q' 0 [ab 4 false] .ret) .skip)))) (g' 44 [aA
 17]))))))) (q' 0 [ab 4 true] .ret)))
theorem a9w (a:d8) (b:d8):Z9 Tryz.prog 220 [(true,[.sl false [.s [],.i .i64 0,.sl false [.sl false [.i .i64 0,.s []] []] []] (a.Rels.map (c9.cells false false))]),(true,[.sl false [.s [],.i .i64 0,.sl false [.sl false [.i .i64 0,.s []] []] []] (b.Rels.map (c9.cells false false))])] [] (.one (false,[.b (a0j a.Rels b.Rels)])):=by
 refine sx' false false none Tryz.func220 a6W [.t 4] [] ?_
 intro hb hE
 simp only [go_sem];(repeat' first | apply CJ.mk | intro hc);all_goals try exact om'
 ·symm
  rw [a0j,decide_eq_false (fun h=>by simp [h] at hc)];rfl
 have hl:a.Rels.length=b.Rels.length:=by simpa [Int.ofNat_inj] using hc
 refine lq' false [3,15,16] [6] [] (fun i:{i:Nat // i≤a.Rels.length∧a0T i (b4G a.Rels b.Rels)=false}=>[(17,slV (.i .i64 i.1))]) nl' nl' (fun i=>a.Rels.length - i.1) (⟨0,by simp [w8]⟩) ?_
 intro S0 hS0 i
 obtain ⟨i,hi,ha⟩:=i
 simp only [go_sem,hS0];(repeat' first | apply CJ.mk | intro hc);all_goals try exact om'
 ·rw [a0j,z8 (i:=i) (by omega) (by simpa [b4G,bne] using hc)];simp
 ·exact nx0 ⟨i+1,by omega,v9 ha (by simpa [b4G,bne] using hc)⟩
 ·obtain rfl:i=a.Rels.length:=by omega
  rw [a0j,ha,decide_eq_true hl];rfl
noncomputable def a0V:CT:=i3 (fun (x:d8×d8)=>a9w x.1 x.2)
@[go_sem] def c0E:=fun x0 x1=>nm' (fQ' a0V rfl (⟨x0⟩,⟨x1⟩))
@[go_sem] def a9e:ACode:=q' 2 [ao (.box 1 (.t 0)),ao (.box 1 (.t 1)),ao (.mov (bb false))] (.seq (q' 6 [aG 0 2,aN,aG 0 3,aN,ao (.bin .neq (.t 8) (.t 11))] (.cond (.t 12) (q' 0 [ab 4
 false] .ret) .skip)) (.seq (q' 13 [aG 0 2,aN,aK 0] (.block 0 (.loop (q' 17 [ar 16 15] (.seq (.cond (.t 17) .skip (.exit 0)) (.seq (.block 1 (q' 18 [am 16,aV
 5] (.seq (G' 19 [aG 0 2,am 5,aI 3,aG 0 22,aG 0 3,am 5,aI 3,aG 0 28,ao (.bin .neq (.t 24) (.t 30)),am 31,au (.fa 0 (.t 2)) 32 false,au (.ld false 1 (.t 33)) 32
 false,au (.mov (.t 5)) 32 false,au (.ia 3 (.t 34) (.t 35)) 32 false,au (.fa 1 (.t 36)) 32 false,au (.fa 0 (.t 37)) 32 false,au (.ld false 1 (.t 38)) 32
 false,au (.fa 0 (.t 3)) 32 false,au (.ld false 1 (.t 40)) 32 false,au (.mov (.t 5)) 32 false,au (.ia 3 (.t 41) (.t 42)) 32 false,au (.fa 1 (.t 43)) 32
 false,au (.fa 0 (.t 44)) 32 false,au (.ld false 1 (.t 45)) 32 false,au (.bin .neq (.t 39) (.t 46)) 32 false,ao (.pick (.t 32) (bb true) (.t 47))]) (.cond (.t
 48) (q' 0 [ab 4 false] .ret) .skip)))) (g' 49 [aA 16]))))))) (q' 0 [ab 4 true] .ret)))
theorem b1P (a:d8) (b:d8):Z9 Tryz.prog 207 [(true,[.sl false [.s [],.i .i64 0,.sl false [.sl false [.i .i64 0,.s []] []] []] (a.Rels.map (c9.cells false false))]),(true,[.sl false [.s [],.i .i64 0,.sl false [.sl false [.i .i64 0,.s []] []] []] (b.Rels.map (c9.cells false false))])] [] (.one (false,[.b (a0j a.Rels b.Rels)])):=by
 refine sx' false false none Tryz.func207 a9e [.t 4] [] ?_
 intro hb hE
 simp only [go_sem];(repeat' first | apply CJ.mk | intro hc);all_goals try exact om'
 ·symm
  rw [a0j,decide_eq_false (fun h=>by simp [h] at hc)];rfl
 have hl:a.Rels.length=b.Rels.length:=by simpa [Int.ofNat_inj] using hc
 refine lq' false [2,3,15] [4,6] [] (fun i:{i:Nat // i≤a.Rels.length∧a0T i (b4G a.Rels b.Rels)=false}=>[(16,slV (.i .i64 i.1))]) nl' nl' (fun i=>a.Rels.length - i.1) (⟨0,by simp [w8]⟩) ?_
 intro S0 hS0 i
 obtain ⟨i,hi,ha⟩:=i
 simp only [go_sem,hS0];(repeat' first | apply CJ.mk | intro hc);all_goals try exact om'
 ·rw [a0j,z8 (i:=i) (by omega) (by simpa [b4G,bne] using hc)];simp
 ·exact nx0 ⟨i+1,by omega,v9 ha (by simpa [b4G,bne] using hc)⟩
 ·obtain rfl:i=a.Rels.length:=by omega
  rw [a0j,ha,decide_eq_true hl];rfl
noncomputable def a1p:CT:=i3 (fun (x:d8×d8)=>b1P x.1 x.2)
@[go_sem] def c1Z:=fun x0 x1=>nm' (fQ' a1p rfl (⟨x0⟩,⟨x1⟩))
theorem b0f {p:c4} (h:a2Y p=true) (k:Int):b3n p k=p8 (a0v p k):=by rw [b3n,a1k h];rfl
theorem b3t {p:c4} (h:a2Y p=true):p.Decls.length≤16:=by
 have:=a1c (a1k h)
 simp only [m9,Bool.and_eq_true,decide_eq_true_eq] at this
 omega
@[go_sem] def b0p:ACode:=q' 2 [ao (.box 2 (.t 0)),ao (.box 1 (.t 1)),ao (.mov (bb false))] (.seq (G' 5 [ae 2 2,ac 119 [5],am 6,au (.ld true 1 (.t 3)) 7 true,au (.call 70 [.t 8]) 7
 true,ao (.pick (.t 7) (.t 9) (bb false)),am 10,au (.ld true 1 (.t 3)) 11 true,au (.ld true 2 (.t 2)) 11 true,au (.call 221 [.t 13,.k (.v false [.c (.i .i64
 1)])]) 11 true,au (.call 220 [.t 12,.t 14]) 11 true,ao (.pick (.t 11) (.t 15) (bb false)),aV 4]) .ret)
theorem b3E (p:c4) (s:d8):Z9 Tryz.prog 131 [(true,[.sl false [.i .i64 0,.s [],.i .i64 0] (p.Decls.map d7.cells),.sl false [.i .i64 0,.s [],.sl false [.s [],.i .i64 0,.s []] [],.sl false [.i .i64 0,.s [],.sl false [.s [],.i .i64 0,.s []] [],.i .i64 0,.s [],.i .i64 0,.s [],.s [],.i .i64 0,.s []] []] (p.Rules.map (c6.cells false false))]),(true,[.sl false [.s [],.i .i64 0,.sl false [.sl false [.i .i64 0,.s []] []] []] (s.Rels.map (c9.cells false false))])] [] (.one (false,[.b (a5j p s)])):=by
 refine sx' false false none Tryz.func131 b0p [.t 4] [(119,[],b0a),(70,[],a1H),(221,[],a0y),(220,[],a0V)] ?_
 intro hb hE
 simp only [go_sem];(repeat' first | apply CJ.mk | intro hc);all_goals try exact om'
 rw [a5j]
 cases h:a2Y p with
 | false=>rfl
 | true=>rw [b0f h]
noncomputable def a4s:CT:=i3 (fun (x:c4×d8)=>b3E x.1 x.2)
@[go_sem] def c2H:=fun x0 x1 x2=>nm' (fQ' a4s rfl (⟨x0,x1⟩,⟨x2⟩))
@[go_sem] def b1a:ACode:=q' 2 [ao (.box 2 (.t 0)),ao (.box 1 (.t 1)),ao (.mov (bb false))] (.seq (G' 5 [ae 2 2,ac 115 [5],am 6,au (.ld true 1 (.t 3)) 7 true,au (.call 87 [.t 8]) 7
 true,ao (.pick (.t 7) (.t 9) (bb false)),am 10,au (.ld true 1 (.t 3)) 11 true,au (.ld true 2 (.t 2)) 11 true,au (.call 208 [.t 13,.k (.v false [.c (.i .i64
 1)])]) 11 true,au (.call 207 [.t 12,.t 14]) 11 true,ao (.pick (.t 11) (.t 15) (bb false)),aV 4]) .ret)
theorem b4p (p:c4) (s:d8):Z9 Tryz.prog 129 [(true,[.sl false [.i .i64 0,.s [],.i .i64 0] (p.Decls.map d7.cells),.sl false [.i .i64 0,.s [],.sl false [.s [],.i .i64 0,.s []] [],.sl false [.i .i64 0,.s [],.sl false [.s [],.i .i64 0,.s []] [],.i .i64 0,.s [],.i .i64 0,.s [],.s [],.i .i64 0,.s []] []] (p.Rules.map (c6.cells false false))]),(true,[.sl false [.s [],.i .i64 0,.sl false [.sl false [.i .i64 0,.s []] []] []] (s.Rels.map (c9.cells false false))])] [] (.one (false,[.b (a5j p s)])):=by
 refine sx' false false none Tryz.func129 b1a [.t 4] [(115,[],b0c),(87,[],a1P),(208,[],a0n),(207,[],a1p)] ?_
 intro hb hE
 simp only [go_sem];(repeat' first | apply CJ.mk | intro hc);all_goals try exact om'
 ·exact b3t hc.1
 ·rfl
noncomputable def a4T:CT:=i3 (fun (x:c4×d8)=>b4p x.1 x.2)
@[go_sem] def c3s:=fun x0 x1 x2=>nm' (fQ' a4T rfl (⟨x0,x1⟩,⟨x2⟩))
end Go.Aw
