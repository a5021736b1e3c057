/- States that fit a program. No condition. -/
import Derived.Test.YtdfnhhecaaaoaaaGreatyaT23
import Derived.Test.YtdfnhhecaaaoaaaGreatyaT19
import Derived.Test.YtdfnhhecaaaoaaaGreatyaT5
namespace Go.Aw
open Go.Proofs
attribute [local irreducible] aft blk lpK retK AW Z9
set_option linter.all false
set_option maxRecDepth 100000
def b4A (a b:List c9) (i:Nat):Bool:=!((a.getD i default).Name==(b.getD i default).Name) || !((a.getD i default).Rel.Arity==(b.getD i default).Rel.Arity)
def a0f (a b:List c9):Bool:=decide (a.length=b.length)&&!a0S a.length (b4A a b)
noncomputable def a5j (p:c4) (s:d9):Bool:=a2X p&&s9 s&&a0f s.Rels (p8 (a0t p 1))
@[go_sem] def a6T:ACode:=q' 2 [ao (.box 1 (.t 0)),ao (.box 1 (.t 1)),ao (.mov (bb false))] (.seq (q' 7 [aG 0 2,aN,aG 0 3,aN,ao (.bin .neq (.t 9) (.t 12))] (.cond (.t 13) (q' 0 [ab 4
 false] .ret) .skip)) (.seq (q' 14 [aG 0 2,aN,aK 0] (.block 0 (.loop (q' 18 [ar 17 16] (.seq (.cond (.t 18) .skip (.exit 0)) (.seq (.block 1 (q' 19 [am 17,ai 3
 15 17,aE 3,ax (w' 6 [.s,.i .i64,.sl [.sl false [.i .i64 0,.s []] []]]),av 5 19,aS 3 6 21] (.seq (G' 22 [aG 0 6,aG 0 3,am 5,aI 3,aG 0 27,ao (.bin .neq (.t
 23) (.t 29)),am 30,au (.fa 1 (.t 6)) 31 false,au (.fa 0 (.t 32)) 31 false,au (.ld false 1 (.t 33)) 31 false,au (.fa 0 (.t 3)) 31 false,au (.ld false 1 (.t
 35)) 31 false,au (.mov (.t 5)) 31 false,au (.ia 3 (.t 36) (.t 37)) 31 false,au (.fa 1 (.t 38)) 31 false,au (.fa 0 (.t 39)) 31 false,au (.ld false 1 (.t 40))
 31 false,au (.bin .neq (.t 34) (.t 41)) 31 false,ao (.pick (.t 31) (bb true) (.t 42))]) (.cond (.t 43) (q' 0 [ab 4 false] .ret) .skip)))) (g' 44 [aA
 17]))))))) (q' 0 [ab 4 true] .ret)))
theorem a9q (a:d9) (b:d9):Z9 Tryz.prog 220 [(true,[.sl false [.s [],.i .i64 0,.sl false [.sl false [.i .i64 0,.s []] []] []] (a.Rels.map (c9.cells false false))]),(true,[.sl false [.s [],.i .i64 0,.sl false [.sl false [.i .i64 0,.s []] []] []] (b.Rels.map (c9.cells false false))])] [] (.one (false,[.b (a0f a.Rels b.Rels)])):=by
 refine sx' false false none Tryz.func220 a6T [.t 4] [] ?_
 intro hb hE
 simp only [go_sem];(repeat' first | apply CJ.mk | intro hc);all_goals try exact om'
 ·symm
  rw [a0f,decide_eq_false (fun h=>by simp [h] at hc)];rfl
 have hl:a.Rels.length=b.Rels.length:=by simpa [Int.ofNat_inj] using hc
 refine lq' false [3,15,16] [6] [] (fun i:{i:Nat // i≤a.Rels.length∧a0S i (b4A a.Rels b.Rels)=false}=>[(17,slV (.i .i64 i.1))]) nl' nl' (fun i=>a.Rels.length - i.1) (⟨0,by simp [w7]⟩) ?_
 intro S0 hS0 i
 obtain ⟨i,hi,ha⟩:=i
 simp only [go_sem,hS0];(repeat' first | apply CJ.mk | intro hc);all_goals try exact om'
 ·rw [a0f,z5 (i:=i) (by omega) (by simpa [b4A,bne] using hc)];simp
 ·exact nx0 ⟨i+1,by omega,v8 ha (by simpa [b4A,bne] using hc)⟩
 ·obtain rfl:i=a.Rels.length:=by omega
  rw [a0f,ha,decide_eq_true hl];rfl
noncomputable def a0U:CT:=i3 (fun (x:d9×d9)=>a9q x.1 x.2)
@[go_sem] def c0x:=fun x0 x1=>nm' (fQ' a0U rfl (⟨x0⟩,⟨x1⟩))
@[go_sem] def a8Z:ACode:=q' 2 [ao (.box 1 (.t 0)),ao (.box 1 (.t 1)),ao (.mov (bb false))] (.seq (q' 6 [aG 0 2,aN,aG 0 3,aN,ao (.bin .neq (.t 8) (.t 11))] (.cond (.t 12) (q' 0 [ab 4
 false] .ret) .skip)) (.seq (q' 13 [aG 0 2,aN,aK 0] (.block 0 (.loop (q' 17 [ar 16 15] (.seq (.cond (.t 17) .skip (.exit 0)) (.seq (.block 1 (q' 18 [am 16,aV
 5] (.seq (G' 19 [aG 0 2,am 5,aI 3,aG 0 22,aG 0 3,am 5,aI 3,aG 0 28,ao (.bin .neq (.t 24) (.t 30)),am 31,au (.fa 0 (.t 2)) 32 false,au (.ld false 1 (.t 33)) 32
 false,au (.mov (.t 5)) 32 false,au (.ia 3 (.t 34) (.t 35)) 32 false,au (.fa 1 (.t 36)) 32 false,au (.fa 0 (.t 37)) 32 false,au (.ld false 1 (.t 38)) 32
 false,au (.fa 0 (.t 3)) 32 false,au (.ld false 1 (.t 40)) 32 false,au (.mov (.t 5)) 32 false,au (.ia 3 (.t 41) (.t 42)) 32 false,au (.fa 1 (.t 43)) 32
 false,au (.fa 0 (.t 44)) 32 false,au (.ld false 1 (.t 45)) 32 false,au (.bin .neq (.t 39) (.t 46)) 32 false,ao (.pick (.t 32) (bb true) (.t 47))]) (.cond (.t
 48) (q' 0 [ab 4 false] .ret) .skip)))) (g' 49 [aA 16]))))))) (q' 0 [ab 4 true] .ret)))
theorem b1I (a:d9) (b:d9):Z9 Tryz.prog 207 [(true,[.sl false [.s [],.i .i64 0,.sl false [.sl false [.i .i64 0,.s []] []] []] (a.Rels.map (c9.cells false false))]),(true,[.sl false [.s [],.i .i64 0,.sl false [.sl false [.i .i64 0,.s []] []] []] (b.Rels.map (c9.cells false false))])] [] (.one (false,[.b (a0f a.Rels b.Rels)])):=by
 refine sx' false false none Tryz.func207 a8Z [.t 4] [] ?_
 intro hb hE
 simp only [go_sem];(repeat' first | apply CJ.mk | intro hc);all_goals try exact om'
 ·symm
  rw [a0f,decide_eq_false (fun h=>by simp [h] at hc)];rfl
 have hl:a.Rels.length=b.Rels.length:=by simpa [Int.ofNat_inj] using hc
 refine lq' false [2,3,15] [4,6] [] (fun i:{i:Nat // i≤a.Rels.length∧a0S i (b4A a.Rels b.Rels)=false}=>[(16,slV (.i .i64 i.1))]) nl' nl' (fun i=>a.Rels.length - i.1) (⟨0,by simp [w7]⟩) ?_
 intro S0 hS0 i
 obtain ⟨i,hi,ha⟩:=i
 simp only [go_sem,hS0];(repeat' first | apply CJ.mk | intro hc);all_goals try exact om'
 ·rw [a0f,z5 (i:=i) (by omega) (by simpa [b4A,bne] using hc)];simp
 ·exact nx0 ⟨i+1,by omega,v8 ha (by simpa [b4A,bne] using hc)⟩
 ·obtain rfl:i=a.Rels.length:=by omega
  rw [a0f,ha,decide_eq_true hl];rfl
noncomputable def a1p:CT:=i3 (fun (x:d9×d9)=>b1I x.1 x.2)
@[go_sem] def c1S:=fun x0 x1=>nm' (fQ' a1p rfl (⟨x0⟩,⟨x1⟩))
theorem a9Z {p:c4} (h:a2X p=true) (k:Int):b3g p k=p8 (a0t p k):=by rw [b3g,a1j h];rfl
theorem b3n {p:c4} (h:a2X p=true):p.Decls.length≤16:=by
 have:=a1b (a1j h)
 simp only [m9,Bool.and_eq_true,decide_eq_true_eq] at this
 omega
@[go_sem] def b0i:ACode:=q' 2 [ao (.box 2 (.t 0)),ao (.box 1 (.t 1)),ao (.mov (bb false))] (.seq (G' 5 [ae 2 2,ac 119 [5],am 6,au (.ld true 1 (.t 3)) 7 true,au (.call 70 [.t 8]) 7
 true,ao (.pick (.t 7) (.t 9) (bb false)),am 10,au (.ld true 1 (.t 3)) 11 true,au (.ld true 2 (.t 2)) 11 true,au (.call 221 [.t 13,.k (.v false [.c (.i .i64
 1)])]) 11 true,au (.call 220 [.t 12,.t 14]) 11 true,ao (.pick (.t 11) (.t 15) (bb false)),aV 4]) .ret)
theorem b3y (p:c4) (s:d9):Z9 Tryz.prog 131 [(true,[.sl false [.i .i64 0,.s [],.i .i64 0] (p.Decls.map d8.cells),.sl false [.i .i64 0,.s [],.sl false [.s [],.i .i64 0,.s []] [],.sl false [.i .i64 0,.s [],.sl false [.s [],.i .i64 0,.s []] [],.i .i64 0,.s [],.i .i64 0,.s [],.s [],.i .i64 0,.s []] []] (p.Rules.map (c6.cells false false))]),(true,[.sl false [.s [],.i .i64 0,.sl false [.sl false [.i .i64 0,.s []] []] []] (s.Rels.map (c9.cells false false))])] [] (.one (false,[.b (a5j p s)])):=by
 refine sx' false false none Tryz.func131 b0i [.t 4] [(119,[],a9U),(70,[],a1H),(221,[],a0w),(220,[],a0U)] ?_
 intro hb hE
 simp only [go_sem];(repeat' first | apply CJ.mk | intro hc);all_goals try exact om'
 rw [a5j]
 cases h:a2X p with
 | false=>rfl
 | true=>rw [a9Z h]
noncomputable def a4r:CT:=i3 (fun (x:c4×d9)=>b3y x.1 x.2)
@[go_sem] def c2A:=fun x0 x1 x2=>nm' (fQ' a4r rfl (⟨x0,x1⟩,⟨x2⟩))
@[go_sem] def b0T:ACode:=q' 2 [ao (.box 2 (.t 0)),ao (.box 1 (.t 1)),ao (.mov (bb false))] (.seq (G' 5 [ae 2 2,ac 115 [5],am 6,au (.ld true 1 (.t 3)) 7 true,au (.call 87 [.t 8]) 7
 true,ao (.pick (.t 7) (.t 9) (bb false)),am 10,au (.ld true 1 (.t 3)) 11 true,au (.ld true 2 (.t 2)) 11 true,au (.call 208 [.t 13,.k (.v false [.c (.i .i64
 1)])]) 11 true,au (.call 207 [.t 12,.t 14]) 11 true,ao (.pick (.t 11) (.t 15) (bb false)),aV 4]) .ret)
theorem b4j (p:c4) (s:d9):Z9 Tryz.prog 129 [(true,[.sl false [.i .i64 0,.s [],.i .i64 0] (p.Decls.map d8.cells),.sl false [.i .i64 0,.s [],.sl false [.s [],.i .i64 0,.s []] [],.sl false [.i .i64 0,.s [],.sl false [.s [],.i .i64 0,.s []] [],.i .i64 0,.s [],.i .i64 0,.s [],.s [],.i .i64 0,.s []] []] (p.Rules.map (c6.cells false false))]),(true,[.sl false [.s [],.i .i64 0,.sl false [.sl false [.i .i64 0,.s []] []] []] (s.Rels.map (c9.cells false false))])] [] (.one (false,[.b (a5j p s)])):=by
 refine sx' false false none Tryz.func129 b0T [.t 4] [(115,[],a9W),(87,[],a1P),(208,[],a0j),(207,[],a1p)] ?_
 intro hb hE
 simp only [go_sem];(repeat' first | apply CJ.mk | intro hc);all_goals try exact om'
 ·exact b3n hc.1
 ·rfl
noncomputable def a4T:CT:=i3 (fun (x:c4×d9)=>b4j x.1 x.2)
@[go_sem] def c3l:=fun x0 x1 x2=>nm' (fQ' a4T rfl (⟨x0,x1⟩,⟨x2⟩))
end Go.Aw
