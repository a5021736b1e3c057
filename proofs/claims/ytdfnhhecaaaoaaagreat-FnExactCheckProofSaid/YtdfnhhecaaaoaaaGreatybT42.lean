/- Steps of a proof: which of them are right. No condition. -/
import Derived.Test.YtdfnhhecaaaoaaaGreatybT24
import Derived.Test.YtdfnhhecaaaoaaaGreatybT37
import Derived.Test.YtdfnhhecaaaoaaaGreatybT8
namespace Go.Aw
open Go.Proofs
attribute [local irreducible] aft blk lpK retK AW Z9
set_option linter.all false
set_option maxRecDepth 100000
set_option maxHeartbeats 4000000
attribute [local irreducible] RM
theorem b0l {p:c4} {s:d8} (h:a5j p s=true):a2Y p=true:=by
 simp only [a5j,Bool.and_eq_true] at h;exact h.1.1
noncomputable def b0g (p:c4) (s v:d8):Bool:=a5j p s&&s9 v&&a0j v.Rels (p8 (a0v p 3))
@[go_sem] def a6V:ACode:=q' 3 [ao (.box 2 (.t 0)),ao (.box 1 (.t 1)),ao (.box 1 (.t 2)),ao (.mov (bb false))] (.seq (G' 7 [ae 2 3,ae 1 4,ac 131 [7,8],am 9,au (.ld true 1 (.t 5)) 10
 true,au (.call 70 [.t 11]) 10 true,ao (.pick (.t 10) (.t 12) (bb false)),am 13,au (.ld true 1 (.t 5)) 14 true,au (.ld true 2 (.t 3)) 14 true,au (.call 221 [.t
 16,.k (.v false [.c (.i .i64 3)])]) 14 true,au (.call 220 [.t 15,.t 17]) 14 true,ao (.pick (.t 14) (.t 18) (bb false)),aV 6]) .ret)
theorem a9v (p:c4) (s:d8) (v:d8):Z9 Tryz.prog 109 [(true,[.sl false [.i .i64 0,.s [],.i .i64 0] (p.Decls.map d7.cells),.sl false [.i .i64 0,.s [],.sl false [.s [],.i .i64 0,.s []] [],.sl false [.i .i64 0,.s [],.sl false [.s [],.i .i64 0,.s []] [],.i .i64 0,.s [],.i .i64 0,.s [],.s [],.i .i64 0,.s []] []] (p.Rules.map (c6.cells false false))]),(true,[.sl false [.s [],.i .i64 0,.sl false [.sl false [.i .i64 0,.s []] []] []] (s.Rels.map (c9.cells false false))]),(true,[.sl false [.s [],.i .i64 0,.sl false [.sl false [.i .i64 0,.s []] []] []] (v.Rels.map (c9.cells false false))])] [] (.one (false,[.b (b0g p s v)])):=by
 refine sx' false false none Tryz.func109 a6V [.t 6] [(131,[],a4s),(70,[],a1H),(221,[],a0y),(220,[],a0V)] ?_
 intro hb hE
 simp only [go_sem];(repeat' first | apply CJ.mk | intro hc);all_goals try exact om'
 rw [b0g]
 cases h:a5j p s with
 | false=>rfl
 | true=>rw [b0f (b0l h)]
noncomputable def a2M:CT:=i3 (fun (x:c4×d8×d8)=>a9v x.1 x.2.1 x.2.2)
@[go_sem] def c0D:=fun x0 x1 x2 x3=>nm' (fQ' a2M rfl (⟨x0,x1⟩,⟨x2⟩,⟨x3⟩))
@[go_sem] def a9f:ACode:=q' 3 [ao (.box 2 (.t 0)),ao (.box 1 (.t 1)),ao (.box 1 (.t 2)),ao (.mov (bb false))] (.seq (G' 7 [ae 2 3,ae 1 4,ac 129 [7,8],am 9,au (.ld true 1 (.t 5)) 10
 true,au (.call 87 [.t 11]) 10 true,ao (.pick (.t 10) (.t 12) (bb false)),am 13,au (.ld true 1 (.t 5)) 14 true,au (.ld true 2 (.t 3)) 14 true,au (.call 208 [.t
 16,.k (.v false [.c (.i .i64 3)])]) 14 true,au (.call 207 [.t 15,.t 17]) 14 true,ao (.pick (.t 14) (.t 18) (bb false)),aV 6]) .ret)
theorem b1Q (p:c4) (s:d8) (v:d8):Z9 Tryz.prog 103 [(true,[.sl false [.i .i64 0,.s [],.i .i64 0] (p.Decls.map d7.cells),.sl false [.i .i64 0,.s [],.sl false [.s [],.i .i64 0,.s []] [],.sl false [.i .i64 0,.s [],.sl false [.s [],.i .i64 0,.s []] [],.i .i64 0,.s [],.i .i64 0,.s [],.s [],.i .i64 0,.s []] []] (p.Rules.map (c6.cells false false))]),(true,[.sl false [.s [],.i .i64 0,.sl false [.sl false [.i .i64 0,.s []] []] []] (s.Rels.map (c9.cells false false))]),(true,[.sl false [.s [],.i .i64 0,.sl false [.sl false [.i .i64 0,.s []] []] []] (v.Rels.map (c9.cells false false))])] [] (.one (false,[.b (b0g p s v)])):=by
 refine sx' false false none Tryz.func103 a9f [.t 6] [(129,[],a4T),(87,[],a1P),(208,[],a0n),(207,[],a1p)] ?_
 intro hb hE
 simp only [go_sem];(repeat' first | apply CJ.mk | intro hc);all_goals try exact om'
 ·exact b3t (b0l hc.1)
 ·rfl
noncomputable def a3Y:CT:=i3 (fun (x:c4×d8×d8)=>b1Q x.1 x.2.1 x.2.2)
@[go_sem] def c2a:=fun x0 x1 x2 x3=>nm' (fQ' a3Y rfl (⟨x0,x1⟩,⟨x2⟩,⟨x3⟩))
@[go_sem] def c4s:ACode:=q' 0 [ab 4 false] (.seq (q' 6 [am 0,aN,am 1,aN,ao (.bin .neq (.t 7) (.t 9))] (.cond (.t 10) (q' 0 [ab 4 false] .ret) .skip)) (.seq (q' 11 [am 0,aN,aK 0] (.block
 0 (.loop (q' 14 [ar 13 12] (.seq (.cond (.t 14) .skip (.exit 0)) (.seq (.block 1 (q' 15 [am 13,aV 5] (.seq (G' 16 [aM [0,5],aI 1,aL,aM [1,5],aI 1,aL,ao (.bin
 .neq (.t 19) (.t 23))]) (.cond (.t 24) (q' 0 [ab 4 false] .ret) .skip)))) (g' 25 [aA 13]))))))) (q' 0 [ab 4 true] .ret)))
theorem c7J (a:List (List UInt8)) (b:List (List UInt8)):Z9 Tryz.prog 223 [(false,[.sl false [.s []] (a.map j8)]),(false,[.sl false [.s []] (b.map j8)])] [] (.one (false,[.b (decide (a=b))])):=by
 refine sx' false false none Tryz.func223 c4s [.t 4] [] ?_
 intro hb hE
 simp only [go_sem];(repeat' first | apply CJ.mk | intro hc);all_goals try exact om'
 ·exact (decide_eq_false (fun h=>by simp [h] at hc)).symm
 have hl:a.length=b.length:=by simpa [Int.ofNat_inj] using hc
 refine lq' false [0,1,12] [] [] (fun i:{i:Nat // i≤a.length∧a.take i=b.take i}=>[(13,slV (.i .i64 i.1))]) nl' nl' (fun i=>a.length - i.1) (⟨0,by simp⟩) ?_
 intro S0 hS0 i
 obtain ⟨i,hi,ht⟩:=i
 simp only [go_sem,hS0];(repeat' first | apply CJ.mk | intro hc);all_goals try exact om'
 ·exact (decide_eq_false (u1 [] (i:=i) (by simpa using hc))).symm
 ·exact nx0 ⟨i+1,by omega,o8 ht (by omega) (by omega) (d:=[]) (by simpa using hc)⟩
 ·exact (decide_eq_true (j7 hl ht (by omega))).symm
noncomputable def b9f:CT:=i3 (fun (x:(List (List UInt8))×(List (List UInt8)))=>c7J x.1 x.2)
@[go_sem] def c_eqStrs_eq:=fun a b=>nm' (fQ' b9f rfl (a,b))
@[go_sem] def a4i:ACode:=q' 0 [ab 4 false] (.seq (q' 6 [am 0,aN,am 1,aN,ao (.bin .neq (.t 7) (.t 9))] (.cond (.t 10) (q' 0 [ab 4 false] .ret) .skip)) (.seq (q' 11 [am 0,aN,aK 0] (.block
 0 (.loop (q' 14 [ar 13 12] (.seq (.cond (.t 14) .skip (.exit 0)) (.seq (.block 1 (q' 15 [am 13,aV 5] (.seq (G' 16 [aM [0,5],aI 1,aL,aM [1,5],aI 1,aL,ao (.bin
 .neq (.t 19) (.t 23))]) (.cond (.t 24) (q' 0 [ab 4 false] .ret) .skip)))) (g' 25 [aA 13]))))))) (q' 0 [ab 4 true] .ret)))
theorem a5B (a:List (List UInt8)) (b:List (List UInt8)):Z9 Tryz.prog 210 [(false,[.sl false [.s []] (a.map j8)]),(false,[.sl false [.s []] (b.map j8)])] [] (.one (false,[.b (decide (a=b))])):=by
 refine sx' false false none Tryz.func210 a4i [.t 4] [] ?_
 intro hb hE
 simp only [go_sem];(repeat' first | apply CJ.mk | intro hc);all_goals try exact om'
 ·exact (decide_eq_false (fun h=>by simp [h] at hc)).symm
 have hl:a.length=b.length:=by simpa [Int.ofNat_inj] using hc
 refine lq' false [0,1,12] [] [] (fun i:{i:Nat // i≤a.length∧a.take i=b.take i}=>[(13,slV (.i .i64 i.1))]) nl' nl' (fun i=>a.length - i.1) (⟨0,by simp⟩) ?_
 intro S0 hS0 i
 obtain ⟨i,hi,ht⟩:=i
 simp only [go_sem,hS0];(repeat' first | apply CJ.mk | intro hc);all_goals try exact om'
 ·exact (decide_eq_false (u1 [] (i:=i) (by simpa using hc))).symm
 ·exact nx0 ⟨i+1,by omega,o8 ht (by omega) (by omega) (d:=[]) (by simpa using hc)⟩
 ·exact (decide_eq_true (j7 hl ht (by omega))).symm
noncomputable def a1u:CT:=i3 (fun (x:(List (List UInt8))×(List (List UInt8)))=>a5B x.1 x.2)
@[go_sem] def b7I:=fun a b=>nm' (fQ' a1u rfl (a,b))
@[go_sem] def b1l:ACode:=q' 1 [ao (.box 1 (.t 0)),ao (.mov (.k (.v false [.nl [.s []]])))] (q' 6 [ao (.bsl 1 0 [.s] []),aV 3] (.seq (q' 7 [aG 0 1,aN,aK 0] (.block 0 (.loop (q' 11 [ar 10
 9] (.seq (.cond (.t 11) .skip (.exit 0)) (.seq (.block 1 (q' 12 [ai 3 8 10,aE 3,ax (w' 5 [.s,.i .i64,.s]),aS 3 5 13] (g' 14 [am 3,aG 0 5,ao (.bsl 1 1 [.s]
 [(0,.t 16)]),ao (.app 1 16 [.s] (.t 14) (.t 17)),aV 3]))) (g' 19 [aA 10]))))))) (q' 20 [am 3,aV 2] .ret)))
theorem b4z (e:e8) (hpre:e.Binds.length≤1000):Z9 Tryz.prog 211 [(true,[.sl false [.s [],.i .i64 0,.s []] (e.Binds.map d4.cells)])] [] (.one (false,[.sl false [.s []] ((e.Binds.map d4.Var).map j8)])):=by
 refine sx' false true none Tryz.func211 b1l [.t 2] [] ?_
 intro hb hE
 simp only [go_sem];(repeat' first | apply CJ.mk | intro hc);all_goals try exact om'
 refine lk' false [(false,3,0,100006)] [8,9] [] [] (fun i:{i:Nat // i≤e.Binds.length}=>[(3,.v false [.ow 100006]),(10,slV (.i .i64 i.1))]) nl' (fun i=>[(100006,[.s []],((e.Binds.take i.1).map d4.Var).map j8)]) (fun i=>e.Binds.length - i.1) (⟨0,by simp⟩) ?_
 intro S0 hS0 i
 obtain ⟨i,hi⟩:=i
 have hol:(e.Binds.take i).length=i:=by rw [List.length_take];omega
 have hsn:i < e.Binds.length→e.Binds.take (i+1)=e.Binds.take i++[e.Binds.getD i default]:=fun h=>i5 default h
 simp only [go_sem,hS0];(repeat' first | apply CJ.mk | intro hc);all_goals try exact om'
 ·(refine lpK_n2 (⟨i+1,by omega⟩) _ (by simp only [go_sem];try rfl) ?_;simp only [go_sem,hS0];first | done | ((repeat' apply And.intro)<;>try exact on'))
  all_goals (rw [hsn (by omega)];simp only [List.map_append,List.map_cons,List.map_nil])
 ·rw [f9 (by omega)]
noncomputable def a5a:CT:=l5 (fun (x:e8) h=>b4z x h)
@[go_sem] def c3C:=fun x0=>nm' (fP' a5a rfl ⟨x0⟩)
noncomputable def stH (p:c4) (s:d8) (done:List d9) (e:e8) (l:d5):Bool:=bif l.Kind==1 then z5 (w6 s l.Atom.Name).1.Rows (k9 e l.Atom.Args).1 || (p9 p l.Atom.Name==3&&b0d done l.Atom.Name (k9 e l.Atom.Args).1) else true
noncomputable def a8y (p:c4) (r:c6) (s v:d8) (done:List d9) (x:d9):Bool:=
 ((r.Kind==1&&p9 p r.Head.Name==3)&&(r.Head.Name==x.Name)&&decide (x.Env.Binds.map d4.Var=a0S r))&&(decide ((k9 x.Env r.Head.Args).1.V=x.Row.V)&&(r.Body.all (stH p s done x.Env)&&(a1T r s x.Env&&a1T r v x.Env)))
theorem b7h {p:c4} {r:c6} {s v:d8} {done:List d9} {x:d9} (h:((r.Kind==1&&p9 p r.Head.Name==3)=false∨(r.Head.Name==x.Name)=false)∨¬ x.Env.Binds.map d4.Var=a0S r):a8y p r s v done x=false:=by
 rw [a8y]
 rcases h with (h | h) | h<;>simp [h]
theorem b7i {p:c4} {r:c6} {s v:d8} {done:List d9} {x:d9} (h:¬ (k9 x.Env r.Head.Args).1.V=x.Row.V):a8y p r s v done x=false:=by
 rw [a8y,decide_eq_false h];simp
theorem b7j {p:c4} {r:c6} {s v:d8} {done:List d9} {x:d9} (h:(((r.Kind==1)=true∧(p9 p r.Head.Name==3)=true)∧(r.Head.Name==x.Name)=true)∧x.Env.Binds.map d4.Var=a0S r) (h2:(k9 x.Env r.Head.Args).1.V=x.Row.V):a8y p r s v done x=(r.Body.all (stH p s done x.Env)&&(a1T r s x.Env&&a1T r v x.Env)):=by
 rw [a8y,decide_eq_true h.2,decide_eq_true h2,h.1.1.1,h.1.1.2,h.1.2];rfl
theorem b0i {r:c6} (h:i9 r=true):r.Head.Args.all o5=true∧r.Head.Args.length≤6:=by
 simp only [i9,a1D,Bool.and_eq_true,decide_eq_true_eq] at h
 exact ⟨h.1.1.2.2,by omega⟩
theorem k1_3 {k:Int} (h:(k != 1)=false):(k==3)=false:=by simp at h;rw [h];rfl
theorem c7Z {p:c4} {s:d8} {done:List d9} {e:e8} {l:d5} (h:(l.Kind != 1)=true):stH p s done e l=true:=by
 rw [stH,show (l.Kind==1)=false by simpa [bne] using h];rfl
theorem c7Y {p:c4} {s:d8} {done:List d9} {e:e8} {l:d5} (h:(l.Kind != 1)=false):stH p s done e l=(z5 (w6 s l.Atom.Name).1.Rows (k9 e l.Atom.Args).1 || (p9 p l.Atom.Name==3&&b0d done l.Atom.Name (k9 e l.Atom.Args).1)):=by
 rw [stH,show (l.Kind==1)=true by simpa [bne] using h];rfl
noncomputable def a8x (p:c4) (s v:d8) (done:List d9) (x:d9):Bool:=
 decide (0≤x.Rule)&&decide (x.Rule < p.Rules.length)&&a2X x.Env&&a8y p (p.Rules.getD x.Rule.toNat default) s v done x
theorem a8r {p:c4} (h:m9 p=true):(∀ r∈p.Rules,i9 r=true)∧p.Rules.length≤24:=by
 simp only [m9,Bool.and_eq_true,decide_eq_true_eq,List.all_eq_true] at h
 exact ⟨h.2,by omega⟩
theorem c8a {p:c4} {s v:d8} {done:List d9} {x:d9} (h:(decide (0≤x.Rule)&&decide (x.Rule≤(p.Rules.length:Int) - 1))=false∨a2X x.Env=false):a8x p s v done x=false:=by
 rw [a8x]
 rcases h with h | h
 ·rw [show decide (x.Rule < (p.Rules.length:Int))=decide (x.Rule≤(p.Rules.length:Int) - 1) from decide_eq_decide.2 (by omega),h];rfl
 ·rw [h];simp
theorem a5u {p:c4} {s v:d8} {done:List d9} {x:d9} (h0:0≤x.Rule) (h1:x.Rule < p.Rules.length) (h:a2X x.Env=true):a8x p s v done x=a8y p (p.Rules.getD x.Rule.toNat default) s v done x:=by
 rw [a8x,decide_eq_true h0,decide_eq_true h1,h];rfl
@[go_sem] def a6X:ACode:=q' 5 [ao (.box 2 (.t 0)),ao (.box 1 (.t 1)),ao (.box 1 (.t 2)),ax (o' 9 (.box 4 (.t 4))),ab 10 false] (.seq (q' 23 [aG 2 9,aG 1 5,aN,ao (.bin .sub (.t 27) (k'
 1)),ac 200 [24,28],ao (.not (.t 29)),am 30,au (.fa 3 (.t 9)) 31 false,au (.ld true 1 (.t 32)) 31 false,au (.call 89 [.t 33]) 31 false,au (.not (.t 34)) 31
 false,ao (.pick (.t 31) (bb true) (.t 35))] (.cond (.t 36) (q' 0 [ab 10 false] .ret) .skip)) (q' 37 [aG 1 5,aG 2 9,ai 4 38 40,aE 4,ax (w' 11 [.i .i64,.s,.sl
 [.s [],.i .i64 0,.s []],.sl [.i .i64 0,.s [],.sl false [.s [],.i .i64 0,.s []] [],.i .i64 0,.s [],.i .i64 0,.s [],.s [],.i .i64 0,.s []]]),aS 4
 11 42] (q' 43 [ao (.bsl 1 0 [.s] []),aV 12] (.seq (q' 44 [af 3 9,aG 0 44,aN,aK 0] (.block 0 (.loop (q' 49 [ar 48 47] (.seq (.cond (.t 49) .skip (.exit 0))
 (.seq (.block 1 (q' 50 [ai 3 46 48,aE 3,ax (w' 14 [.s,.i .i64,.s]),aS 3 14 51] (g' 52 [am 12,aG 0 14,ao (.bsl 1 1 [.s] [(0,.t 54)]),ao (.app 1 16 [.s] (.t
 52) (.t 55)),aV 12]))) (g' 57 [aA 48]))))))) (.seq (q' 58 [ae 2 5,ae 4 11,ac 222 [58,59],ao (.not (.t 60)),am 61,au (.fa 1 (.t 11)) 62 false,au (.fa 0 (.t
 63)) 62 false,au (.ld false 1 (.t 64)) 62 false,au (.fa 0 (.t 9)) 62 false,au (.ld false 1 (.t 66)) 62 false,au (.bin .neq (.t 65) (.t 67)) 62 false,ao (.pick
 (.t 62) (bb true) (.t 68)),am 69,au (.mov (.t 12)) 70 false,au (.ld true 4 (.t 11)) 70 false,au (.call 156 [.t 72]) 70 false,au (.call 223 [.t 71,.t 73]) 70
 false,au (.not (.t 74)) 70 false,ao (.pick (.t 70) (bb true) (.t 75))] (.cond (.t 76) (q' 0 [ab 10 false] .ret) .skip)) (.seq (q' 78 [af 3 9,aE 1,af 1 11,aG 1
 80,ac 93 [79,82],aV 77,ao (.ext (.t 77) 0),ao (.ext (.t 77) 1),ax (w' 15 [.sl [.i .i64 0,.s []]]),aS 1 15 84,aV 16] (q' 86 [ae 1 15,af 1 9,aE 1,ac 224
 [86,88],ao (.not (.t 89))] (.cond (.t 90) (q' 0 [ab 10 false] .ret) .skip))) (.seq (q' 91 [aG 3 11,aN,aK 0] (.block 2 (.loop (q' 95 [ar 94 93] (.seq (.cond
 (.t 95) .skip (.exit 2)) (.seq (.block 3 (q' 96 [ai 10 92 94,aE 10,ax (w' 18 [.i .i64,.s,.sl [.s [],.i .i64 0,.s []],.i .i64,.s,.i .i64,.s,.s,.i
 .i64,.s]),aS 10 18 97] (.seq (q' 98 [aG 0 18,ao (.bin .neq (.t 99) (k' 1))] (.cond (.t 100) (.exit 3) .skip)) (q' 102 [af 3 9,aE 1,af 1 18,aG 1 104,ac 93
 [103,106],aV 101,ao (.ext (.t 101) 0),ao (.ext (.t 101) 1),ax (w' 19 [.sl [.i .i64 0,.s []]]),aS 1 19 108,aV 20] (q' 111 [ae 1 6,af 1 18,aG 0 112,ac 94
 [111,114],aV 110,ao (.ext (.t 110) 0),ao (.ext (.t 110) 1),ax (w' 21 [.i .i64,.sl [.sl false [.i .i64 0,.s []] []]]),aS 2 21 116,aV 22] (q' 118 [ae 2 21,ae
 1 19,ac 98 [118,119],ao (.not (.t 120)),am 121,au (.ld true 2 (.t 5)) 122 true,au (.fa 1 (.t 18)) 122 true,au (.fa 0 (.t 124)) 122 true,au (.ld false 1 (.t
 125)) 122 true,au (.call 225 [.t 123,.t 126]) 122 true,au (.bin .eql (.t 127) (k' 3)) 122 true,au (.mov (.t 128)) 122 true,au (.mov (.t 3)) 129 true,au (.fa
 1 (.t 18)) 129 true,au (.fa 0 (.t 131)) 129 true,au (.ld false 1 (.t 132)) 129 true,au (.ld true 1 (.t 19)) 129 true,au (.call 226 [.t 130,.t 133,.t 134])
 129 true,au (.pick (.t 129) (.t 135) (bb false)) 122 true,au (.not (.t 136)) 122 true,ao (.pick (.t 122) (.t 137) (bb false))] (.cond (.t 138) (q' 0 [ab 10
 false] .ret) .skip))))))) (g' 139 [aA 94]))))))) (q' 140 [ae 4 11,ae 1 6,af 3 9,aE 1,ac 178 [140,141,143],am 144,au (.ld true 4 (.t 11)) 145 true,au (.ld true
 1 (.t 7)) 145 true,au (.fa 3 (.t 9)) 145 true,au (.ld true 1 (.t 148)) 145 true,au (.call 178 [.t 146,.t 147,.t 149]) 145 true,ao (.pick (.t 145) (.t 150)
 (bb false)),aV 10] .ret))))))))
theorem a9x (p:c4) (s:d8) (v:d8) (done:List d9) (x:d9) (hpre:a2Y p=true∧s9 s=true∧s9 v=true):Z9 Tryz.prog 110 [(true,[.sl false [.i .i64 0,.s [],.i .i64 0] (p.Decls.map d7.cells),.sl false [.i .i64 0,.s [],.sl false [.s [],.i .i64 0,.s []] [],.sl false [.i .i64 0,.s [],.sl false [.s [],.i .i64 0,.s []] [],.i .i64 0,.s [],.i .i64 0,.s [],.s [],.i .i64 0,.s []] []] (p.Rules.map (c6.cells false false))]),(true,[.sl false [.s [],.i .i64 0,.sl false [.sl false [.i .i64 0,.s []] []] []] (s.Rels.map (c9.cells false false))]),(true,[.sl false [.s [],.i .i64 0,.sl false [.sl false [.i .i64 0,.s []] []] []] (v.Rels.map (c9.cells false false))]),(false,[.sl false [.s [],.sl false [.i .i64 0,.s []] [],.i .i64 0,.sl false [.s [],.i .i64 0,.s []] []] (done.map (d9.cells false false))]),(true,[.s x.Name,.sl false [.i .i64 0,.s []] (x.Row.V.map c7.cells),.i .i64 x.Rule,.sl false [.s [],.i .i64 0,.s []] (x.Env.Binds.map d4.cells)])] [] (.one (false,[.b (a8x p s v done x)])):=by
 refine sx' false false none Tryz.func110 a6X [.t 10] [(200,[],a2e),(89,[],a7u),(222,[],a0z),(156,[],a2r),(223,[],b9f),(93,[],a4t),(224,[],a1N),(94,[],a3m),(98,[],a6F),(225,[],v6),(226,[],a5H),(178,[],a7z)] ?_
 intro hb hE
 obtain ⟨hg,hs,hv⟩:=hpre
 have hP:=a8r (a1c (a1k hg))
 have hw:IntKind.i64.wrap ((p.Rules.length:Int) - 1)=(p.Rules.length:Int) - 1:=w64 (by omega) (by omega) rfl
 simp only [go_sem,hw];(repeat' first | apply CJ.mk | intro hc);all_goals try exact om'
 ·exact (c8a hc).symm
 obtain ⟨⟨h0,h1⟩,he⟩:=hc
 rw [a5u h0 (by omega) he]
 have hR:=hP.1 _ (a7S (l:=p.Rules) (i:=x.Rule.toNat) default (by omega))
 generalize p.Rules.getD x.Rule.toNat default=r at hR ⊢
 obtain ⟨hE1,hE2⟩:=b6V.1 he
 refine lk' false [(false,12,0,100024)] [3,5,6,7,9,11,46,47] [10,12,14,18,22] [] (fun i:{i:Nat // i≤x.Env.Binds.length}=>[(12,.v false [.ow 100024]),(48,slV (.i .i64 i.1))]) nl' (fun i=>[(100024,[.s []],((x.Env.Binds.take i.1).map d4.Var).map j8)]) (fun i=>x.Env.Binds.length - i.1) (⟨0,by simp⟩) ?_
 intro S0 hS0 i
 obtain ⟨i,hi⟩:=i
 have hol:(x.Env.Binds.take i).length=i:=by rw [List.length_take];omega
 have hsn:i < x.Env.Binds.length→x.Env.Binds.take (i+1)=x.Env.Binds.take i++[x.Env.Binds.getD i default]:=fun h=>i5 default h
 have hH:=b0i hR
 have hBl:r.Body.length≤1000:=by
  have:=hR
  simp only [i9,Bool.and_eq_true,decide_eq_true_eq] at this
  omega
 simp only [go_sem,hw,hS0];(repeat' first | apply CJ.mk | intro hc);all_goals try exact om'
 ·(refine lpK_n2 (⟨i+1,by omega⟩) _ (by simp only [go_sem,hw];try rfl) ?_;simp only [go_sem,hw,hS0];first | done | ((repeat' apply And.intro)<;>try exact on'))
  all_goals (rw [hsn (by omega)];simp only [List.map_append,List.map_cons,List.map_nil])
 ·rw [f9 (by omega)] at hc
  exact (b7h hc).symm
 ·exact (b7i hc).symm
 rename_i h2 h3
 rw [f9 (by omega)] at h3
 rw [b7j h3 hc]
 refine lq' false [3,5,6,7,9,11,92,93] [10,12,14,18,22] [] (fun i:{i:Nat // i≤r.Body.length∧(r.Body.take i).all (stH p s done x.Env)=true}=>[(94,slV (.i .i64 i.1))]) nl' nl' (fun i=>r.Body.length - i.1) (⟨0,by simp⟩) ?_
 intro S1 hS1 i
 obtain ⟨j,hj,ha⟩:=i
 have hT:=fun (h1:j < r.Body.length) (h2:((r.Body.getD j default).Kind != 1)=false)=>a9L hR h1 (k1_3 h2)
 have hQ:=a9M hs (r.Body.getD j default).Atom.Name
 simp only [go_sem,hw,hS0,hS1];(repeat' first | apply CJ.mk | intro hc);all_goals try exact om'
 ·(refine lpK_n2 (⟨j+1,by omega,v8 (p:=stH p s done x.Env) default (by omega) ha (c7Z hc)⟩) _ rfl ?_;simp only [go_sem,hw,hS0,hS1];first | done | ((repeat' apply And.intro)<;>try exact on'))
 ·exact (hT (by omega) hc).2
 ·exact ⟨hQ,b9E hE1 (hT (by omega) hc).1 (hT (by omega) hc).2⟩
 ·rename_i h5
  rw [all_false (p:=stH p s done x.Env) (d:=default) (i:=j) (by omega) (by rw [c7Y h5,hc.1,hc.2];rfl)];rfl
 ·rename_i h5
  (refine lpK_n2 (⟨j+1,by omega,v8 (p:=stH p s done x.Env) default (by omega) ha (by rw [c7Y h5,← Bool.not_eq_false',Bool.not_or];exact hc)⟩) _ rfl ?_;simp only [go_sem,hw,hS0,hS1];first | done | ((repeat' apply And.intro)<;>try exact on'))
 ·exact ⟨⟨hR,hs⟩,hE1⟩
 ·exact ⟨⟨hR,hv⟩,hE1⟩
 ·rw [f9 (by omega)] at ha
  rw [ha];rfl
noncomputable def a2N:CT:=l5 (fun (x:c4×d8×d8×(List d9)×d9) h=>a9x x.1 x.2.1 x.2.2.1 x.2.2.2.1 x.2.2.2.2 h)
@[go_sem] def c0F:=fun x0 x1 x2 x3 x4 x5 x6 x7 x8=>nm' (fP' a2N rfl (⟨x0,x1⟩,⟨x2⟩,⟨x3⟩,x4,⟨x5,⟨x6⟩,x7,⟨x8⟩⟩))
end Go.Aw
