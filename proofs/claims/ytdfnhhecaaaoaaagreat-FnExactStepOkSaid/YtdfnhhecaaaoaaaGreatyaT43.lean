/- Steps of a proof: what the reference asks of them; lists of steps. No condition. -/
import Derived.Test.YtdfnhhecaaaoaaaGreatyaT42
namespace Go.Aw
open Go.Proofs
attribute [local irreducible] aft blk lpK retK AW Z9
set_option linter.all false
set_option maxRecDepth 100000
set_option maxHeartbeats 4000000
attribute [local irreducible] RM
noncomputable def stZ (p:c4) (s v:d9) (done:List e7) (e:f5) (l:d6):Bool:=bif l.Kind==3 then n8 l.Op (j4 e l.A).1 (j4 e l.B).1 else
 !(l.Kind==1&&(!y7 (w5 s l.Atom.Name).1.Rows (k9 e l.Atom.Args).1&&!(p9 p l.Atom.Name==3&&a9X done l.Atom.Name (k9 e l.Atom.Args).1)))&&!(l.Kind==2&&(y7 (w5 s l.Atom.Name).1.Rows (k9 e l.Atom.Args).1 || y7 (w5 v l.Atom.Name).1.Rows (k9 e l.Atom.Args).1))
theorem stZ_eq (p:c4) (s v:d9) (done:List e7) (e:f5) (l:d6):stZ p s v done e l=(stH p s done e l&&(a5C s e l&&a5C v e l)):=by
 rw [stZ,stH,a5C,a5C]
 generalize y7 (w5 s l.Atom.Name).1.Rows (k9 e l.Atom.Args).1=a
 generalize y7 (w5 v l.Atom.Name).1.Rows (k9 e l.Atom.Args).1=b
 generalize (p9 p l.Atom.Name==3&&a9X done l.Atom.Name (k9 e l.Atom.Args).1)=c
 generalize n8 l.Op (j4 e l.A).1 (j4 e l.B).1=d
 by_cases h1:l.Kind=1
 ·rw [h1];cases a<;>cases b<;>cases c<;>cases d<;>rfl
 ·by_cases h2:l.Kind=2
  ·rw [h2];cases a<;>cases b<;>cases c<;>cases d<;>rfl
  ·rw [show (l.Kind==1)=false by simpa using h1,show (l.Kind==2)=false by simpa using h2]
   cases l.Kind==3<;>cases d<;>rfl
theorem b2P {α:Type} (f g:α→Bool):∀ l:List α,(l.all fun x=>f x&&g x)=(l.all f&&l.all g)
 | []=>rfl
 | x::l=>by rw [List.all_cons,List.all_cons,List.all_cons,b2P f g l];cases f x<;>cases g x<;>cases l.all f<;>simp
theorem allZ (p:c4) (r:c6) (s v:d9) (done:List e7) (e:f5):r.Body.all (stZ p s v done e)=(r.Body.all (stH p s done e)&&(a1T r s e&&a1T r v e)):=by
 rw [a1T,a1T,← b2P,← b2P,show stZ p s v done e=_ from funext (stZ_eq p s v done e)]
theorem c5M {p:c4} {s v:d9} {done:List e7} {x:e7} (h:(x.Rule < 0∨(p.Rules.length:Int)≤x.Rule)∨a2W x.Env=false):a6j p s v done x=false:=by
 rw [a6j]
 rcases h with (h | h) | h
 ·rw [decide_eq_false (p:=0≤x.Rule) (by omega)];rfl
 ·rw [decide_eq_false (p:=x.Rule < (p.Rules.length:Int)) (by omega)];simp
 ·rw [h];simp
theorem c5N {p:c4} {r:c6} {s v:d9} {done:List e7} {x:e7} (hR:i9 r=true) (h:((r.Head.Name==x.Name)=false∨((v6 p x.Name).Kind != 3)=true)∨¬ x.Env.Binds.map d5.Var=bif i9 r then a0R r else []):a8t p r s v done x=false:=by
 rw [hR,cond_true] at h
 refine b7d ?_
 cases hn:(r.Head.Name==x.Name) with
 | false=>exact .inl (.inr rfl)
 | true=>
   rw [hn] at h
   rcases h with (h | h) | h
   ·cases h
   ·refine .inl (.inl ?_)
    rw [show r.Head.Name=x.Name by simpa using hn,p9,show ((v6 p x.Name).Kind==3)=false by simpa [bne] using h,Bool.and_false]
   ·exact .inr h
@[go_sem] def b5v:ACode:=q' 5 [ao (.box 2 (.t 0)),ao (.box 1 (.t 1)),ao (.box 1 (.t 2)),ax (o' 9 (.box 4 (.t 4))),ab 10 false] (.seq (q' 24 [aG 2 9,ao (.bin .lss (.t 25) (k' 0)),am
 26,au (.fa 2 (.t 9)) 27 false,au (.ld false 1 (.t 28)) 27 false,au (.fa 1 (.t 5)) 27 false,au (.ld false 1 (.t 30)) 27 false,au (.len (.t 31)) 27 false,au
 (.bin .geq (.t 29) (.t 32)) 27 false,ao (.pick (.t 27) (bb true) (.t 33)),am 34,au (.fa 3 (.t 9)) 35 false,au (.ld true 1 (.t 36)) 35 false,au (.call 209 [.t
 37]) 35 false,au (.not (.t 38)) 35 false,ao (.pick (.t 35) (bb true) (.t 39))] (.cond (.t 40) (q' 0 [ab 10 false] .ret) .skip)) (q' 41 [aG 1 5,aG 2 9,ai 4 42
 44,aE 4,ax (w' 11 [.i .i64,.s,.sl [.s [],.i .i64 0,.s []],.sl [.i .i64 0,.s [],.sl false [.s [],.i .i64 0,.s []] [],.i .i64 0,.s [],.i .i64 0,.s
 [],.s [],.i .i64 0,.s []]]),aS 4 11 46] (.seq (.seq (G' 47 [af 1 11,aG 0 47,aG 0 9,ao (.bin .neq (.t 49) (.t 51)),am 52,au (.ld true 2 (.t 5)) 53 false,au
 (.fa 0 (.t 9)) 53 false,au (.ld false 1 (.t 55)) 53 false,au (.call 116 [.t 54,.t 56]) 53 false,au (.fl false 0 1 (.t 57)) 53 false,au (.bin .neq (.t 58) (k'
 3)) 53 false,ao (.pick (.t 53) (bb true) (.t 59)),am 60,au (.fa 3 (.t 9)) 61 false,au (.ld true 1 (.t 62)) 61 false,au (.call 211 [.t 63]) 61 false,au (.ld
 true 4 (.t 11)) 61 false,au (.call 184 [.t 65]) 61 false,au (.call 210 [.t 64,.t 66]) 61 false,au (.not (.t 67)) 61 false,ao (.pick (.t 61) (bb true) (.t
 68))]) (.cond (.t 69) (q' 0 [ab 10 false] .ret) .skip)) (q' 71 [af 3 9,aE 1,af 1 11,aG 1 73,ac 145 [72,75],aV 70,ao (.ext (.t 70) 0),ao (.ext (.t 70) 1),ax
 (w' 12 [.sl [.i .i64 0,.s []]]),aS 1 12 77,aV 13] (.seq (q' 79 [ae 1 12,af 1 9,aE 1,ac 212 [79,81],ao (.not (.t 82))] (.cond (.t 83) (q' 0 [ab 10 false]
 .ret) .skip)) (.seq (q' 84 [aG 3 11,aN,aK 0] (.block 0 (.loop (q' 88 [ar 87 86] (.seq (.cond (.t 88) .skip (.exit 0)) (.seq (.block 1 (q' 89 [am 87,aV 14] (q'
 90 [aG 3 11,am 14,aI 10,aE 10,ax (w' 15 [.i .i64,.s,.sl [.s [],.i .i64 0,.s []],.i .i64,.s,.i .i64,.s,.s,.i .i64,.s]),aS 10 15 94] (.seq (q' 95 [aG
 0 15,ao (.bin .eql (.t 96) (k' 3))] (.cond (.t 97) (q' 99 [af 3 9,aE 1,af 4 15,aE 3,ac 213 [100,102],aV 98,ao (.ext (.t 98) 0),ao (.ext (.t 98) 1),ax (w' 16
 [.i .i64,.s]),aS 2 16 104,aV 17] (q' 107 [af 3 9,aE 1,af 7 15,aE 3,ac 213 [108,110],aV 106,ao (.ext (.t 106) 0),ao (.ext (.t 106) 1),ax (w' 18 [.i .i64,
 .s]),aS 2 18 112,aV 19] (.seq (q' 114 [aG 3 15,ae 2 16,ae 2 18,ac 214 [115,116,117],ao (.not (.t 118))] (.cond (.t 119) (q' 0 [ab 10 false] .ret) .skip))
 (.exit 1)))) .skip)) (q' 121 [af 3 9,aE 1,af 1 15,aG 1 123,ac 145 [122,125],aV 120,ao (.ext (.t 120) 0),ao (.ext (.t 120) 1),ax (w' 20 [.sl [.i .i64 0,.s
 []]]),aS 1 20 127,aV 21] (q' 129 [ae 1 6,af 1 15,aG 0 130,ae 1 20,ac 215 [129,132,133],aV 22] (q' 135 [ae 2 5,af 1 15,aG 0 136,ac 116 [135,138],ao (.fl false
 0 1 (.t 139)),ao (.bin .eql (.t 140) (k' 3)),am 141,au (.mov (.t 3)) 142 true,au (.fa 1 (.t 15)) 142 true,au (.fa 0 (.t 144)) 142 true,au (.ld false 1 (.t
 145)) 142 true,au (.ld true 1 (.t 20)) 142 true,au (.call 216 [.t 143,.t 146,.t 147]) 142 true,ao (.pick (.t 142) (.t 148) (bb false)),aV 23] (.seq (q' 150
 [aG 0 15,ao (.bin .eql (.t 151) (k' 1)),am 152,au (.mov (.t 22)) 153 true,au (.not (.t 154)) 153 true,ao (.pick (.t 153) (.t 155) (bb false)),am 156,au (.mov
 (.t 23)) 157 true,au (.not (.t 158)) 157 true,ao (.pick (.t 157) (.t 159) (bb false))] (.cond (.t 160) (q' 0 [ab 10 false] .ret) .skip)) (q' 161 [aG 0 15,ao
 (.bin .eql (.t 162) (k' 2)),am 163,au (.mov (.t 22)) 164 true,au (.mov (.t 165)) 164 true,au (.ld true 1 (.t 7)) 166 false,au (.fa 1 (.t 15)) 166 false,au
 (.fa 0 (.t 168)) 166 false,au (.ld false 1 (.t 169)) 166 false,au (.ld true 1 (.t 20)) 166 false,au (.call 215 [.t 167,.t 170,.t 171]) 166 false,au (.pick
 (.t 166) (bb true) (.t 172)) 164 true,ao (.pick (.t 164) (.t 173) (bb false))] (.cond (.t 174) (q' 0 [ab 10 false] .ret) .skip)))))))))) (g' 175 [aA
 87]))))))) (q' 0 [ab 10 true] .ret)))))))
theorem b8w (p:c4) (s:d9) (v:d9) (done:List e7) (x:e7) (hpre:a2X p=true∧s9 s=true∧s9 v=true):Z9 Tryz.prog 104 [(true,[.sl false [.i .i64 0,.s [],.i .i64 0] (p.Decls.map d8.cells),.sl false [.i .i64 0,.s [],.sl false [.s [],.i .i64 0,.s []] [],.sl false [.i .i64 0,.s [],.sl false [.s [],.i .i64 0,.s []] [],.i .i64 0,.s [],.i .i64 0,.s [],.s [],.i .i64 0,.s []] []] (p.Rules.map (c6.cells false false))]),(true,[.sl false [.s [],.i .i64 0,.sl false [.sl false [.i .i64 0,.s []] []] []] (s.Rels.map (c9.cells false false))]),(true,[.sl false [.s [],.i .i64 0,.sl false [.sl false [.i .i64 0,.s []] []] []] (v.Rels.map (c9.cells false false))]),(false,[.sl false [.s [],.sl false [.i .i64 0,.s []] [],.i .i64 0,.sl false [.s [],.i .i64 0,.s []] []] (done.map (e7.cells false false))]),(true,[.s x.Name,.sl false [.i .i64 0,.s []] (x.Row.V.map c7.cells),.i .i64 x.Rule,.sl false [.s [],.i .i64 0,.s []] (x.Env.Binds.map d5.cells)])] [] (.one (false,[.b (a6j p s v done x)])):=by
 refine sx' false false none Tryz.func104 b5v [.t 10] [(209,[],a7I),(116,[],y6),(211,[],a5a),(184,[],a2z),(210,[],a1u),(145,[],a4X),(212,[],w9),(213,[],a4Y),(214,[],a3N),(215,[],a7L),(216,[],a4Z)] ?_
 intro hb hE
 obtain ⟨hg,hs,hv⟩:=hpre
 have hP:=a8n (a1b (a1j hg))
 have hN:=(a8l (by simpa using a1j hg)).2.2
 simp only [go_sem];(repeat' first | apply CJ.mk | intro hc);all_goals try exact om'
 ·exact (c5M hc).symm
 ·rename_i h
  have:=(b6R.1 h.2).2
  omega
 ·rename_i h
  rw [a5u (by omega) (by omega) h.2]
  exact (c5N (hP.1 _ (a7P default (by omega))) hc).symm
 ·rename_i h
  exact (b0b (hP.1 _ (a7P default (by omega)))).2
 ·rename_i h h2
  rw [a5u (by omega) (by omega) h.2]
  exact (b7e hc).symm
 rename_i h h2
 rw [a5u (by omega) (by omega) h.2]
 have hR:=hP.1 _ (a7P (l:=p.Rules) (i:=x.Rule.toNat) default (by omega))
 have hK:=fun hk=>b3p hN (i:=x.Rule.toNat) (by omega) hk
 generalize p.Rules.getD x.Rule.toNat default=r at hR hK h2 hc ⊢
 rw [hR,cond_true] at h2
 have hn:r.Head.Name=x.Name:=by simpa using h2.1.1
 have hk:p9 p r.Head.Name=3:=by rw [hn,p9];simpa [bne] using h2.1.2
 rw [b7f ⟨⟨⟨by rw [hK hk];rfl,by rw [hk];rfl⟩,h2.1.1⟩,h2.2⟩ hc,← allZ]
 have hBl:r.Body.length≤1000:=by
  have:=hR
  simp only [i9,Bool.and_eq_true,decide_eq_true_eq] at this
  omega
 refine lq' false [3,5,6,7,9,11,86] [10,12,14,18,22] [] (fun i:{i:Nat // i≤r.Body.length∧(r.Body.take i).all (stZ p s v done x.Env)=true}=>[(87,slV (.i .i64 i.1))]) nl' nl' (fun i=>r.Body.length - i.1) (⟨0,by simp⟩) ?_
 intro S0 hS0 i
 obtain ⟨j,hj,ha⟩:=i
 have hT:=fun (h1:j < r.Body.length) (h2:((r.Body.getD j default).Kind==3)=false)=>a9F hR h1 h2
 have hF:=fun (h1:j < r.Body.length) (h:stZ p s v done x.Env (r.Body.getD j default)=false)=>all_false (p:=stZ p s v done x.Env) (d:=default) h1 h
 have hZ3:((r.Body.getD j default).Kind==3)=true→stZ p s v done x.Env (r.Body.getD j default)=n8 (r.Body.getD j default).Op (j4 x.Env (r.Body.getD j default).A).1 (j4 x.Env (r.Body.getD j default).B).1:=fun h=>by rw [stZ,h];rfl
 have hZ:=fun (h:((r.Body.getD j default).Kind==3)=false)=>(show stZ p s v done x.Env (r.Body.getD j default)=_ by rw [stZ,h,cond_false,p9])
 simp only [go_sem,hS0];(repeat' first | apply CJ.mk | intro hc);all_goals try exact om'
 ·rename_i h3
  exact (hF (by omega) (by rw [hZ3 h3];exact hc)).symm
 ·rename_i h3
  exact nx0 ⟨j+1,by omega,v7 (p:=stZ p s v done x.Env) default (by omega) ha (by rw [hZ3 h3];exact hc)⟩
 ·exact (hT (by omega) hc).2
 ·rename_i h3
  exact (hF (by omega) (by rw [hZ h3,hc.1.1,hc.1.2,hc.2];rfl)).symm
 ·rename_i h3 h4
  refine (hF (by omega) ?_).symm
  rw [hZ h3,hc.1]
  rcases hc.2 with h | h<;>rw [h]<;>simp
 ·rename_i h3 h4
  exact nx0 ⟨j+1,by omega,v7 (p:=stZ p s v done x.Env) default (by omega) ha (by rw [hZ h3,← Bool.and_assoc,h4,hc];rfl)⟩
 ·rw [f9 (by omega)] at ha
  exact ha.symm
noncomputable def a7M:CT:=l5 (fun (x:c4×d9×d9×(List e7)×e7) h=>b8w x.1 x.2.1 x.2.2.1 x.2.2.2.1 x.2.2.2.2 h)
@[go_sem] def c6B:=fun x0 x1 x2 x3 x4 x5 x6 x7 x8=>nm' (fP' a7M rfl (⟨x0,x1⟩,⟨x2⟩,⟨x3⟩,x4,⟨x5,⟨x6⟩,x7,⟨x8⟩⟩))
theorem b0a {p:c4} {s v:d9} (h:b3j p s v=true):(a2X p=true∧s9 s=true)∧s9 v=true:=by
 simp only [b3j,a5j,Bool.and_eq_true] at h
 exact ⟨h.1.1.1,h.1.2⟩
@[go_sem] def b1T:ACode:=q' 5 [ao (.box 2 (.t 0)),ao (.box 1 (.t 1)),ao (.box 1 (.t 2)),ax (o' 9 (.box 4 (.t 4))),ab 10 false] (q' 11 [ae 2 5,ae 1 6,ae 1 7,ac 109 [11,12,13],am 14,au
 (.ld true 2 (.t 5)) 15 true,au (.ld true 1 (.t 6)) 15 true,au (.ld true 1 (.t 7)) 15 true,au (.mov (.t 3)) 15 true,au (.ld true 4 (.t 9)) 15 true,au (.call
 110 [.t 16,.t 17,.t 18,.t 19,.t 20]) 15 true,ao (.pick (.t 15) (.t 21) (bb false)),aV 10] .ret)
theorem b5A (p:c4) (s:d9) (v:d9) (done:List e7) (x:e7):Z9 Tryz.prog 40 [(true,[.sl false [.i .i64 0,.s [],.i .i64 0] (p.Decls.map d8.cells),.sl false [.i .i64 0,.s [],.sl false [.s [],.i .i64 0,.s []] [],.sl false [.i .i64 0,.s [],.sl false [.s [],.i .i64 0,.s []] [],.i .i64 0,.s [],.i .i64 0,.s [],.s [],.i .i64 0,.s []] []] (p.Rules.map (c6.cells false false))]),(true,[.sl false [.s [],.i .i64 0,.sl false [.sl false [.i .i64 0,.s []] []] []] (s.Rels.map (c9.cells false false))]),(true,[.sl false [.s [],.i .i64 0,.sl false [.sl false [.i .i64 0,.s []] []] []] (v.Rels.map (c9.cells false false))]),(false,[.sl false [.s [],.sl false [.i .i64 0,.s []] [],.i .i64 0,.sl false [.s [],.i .i64 0,.s []] []] (done.map (e7.cells false false))]),(true,[.s x.Name,.sl false [.i .i64 0,.s []] (x.Row.V.map c7.cells),.i .i64 x.Rule,.sl false [.s [],.i .i64 0,.s []] (x.Env.Binds.map d5.cells)])] [] (.one (false,[.b (b3j p s v&&a6j p s v done x)])):=by
 refine sx' false false none Tryz.func40 b1T [.t 10] [(109,[],a2L),(110,[],a2M)] ?_
 intro hb hE
 simp only [go_sem];(repeat' first | apply CJ.mk | intro hc);all_goals try exact om'
 exact b0a hc
noncomputable def a5H:CT:=i3 (fun (x:c4×d9×d9×(List e7)×e7)=>b5A x.1 x.2.1 x.2.2.1 x.2.2.2.1 x.2.2.2.2)
@[go_sem] def c4s:=fun x0 x1 x2 x3 x4 x5 x6 x7 x8=>nm' (fQ' a5H rfl (⟨x0,x1⟩,⟨x2⟩,⟨x3⟩,x4,⟨x5,⟨x6⟩,x7,⟨x8⟩⟩))
@[go_sem] def b2E:ACode:=q' 5 [ao (.box 2 (.t 0)),ao (.box 1 (.t 1)),ao (.box 1 (.t 2)),ax (o' 9 (.box 4 (.t 4))),ab 10 false] (q' 11 [ae 2 5,ae 1 6,ae 1 7,ac 103 [11,12,13],am 14,au
 (.ld true 2 (.t 5)) 15 true,au (.ld true 1 (.t 6)) 15 true,au (.ld true 1 (.t 7)) 15 true,au (.mov (.t 3)) 15 true,au (.ld true 4 (.t 9)) 15 true,au (.call
 104 [.t 16,.t 17,.t 18,.t 19,.t 20]) 15 true,ao (.pick (.t 15) (.t 21) (bb false)),aV 10] .ret)
theorem b6m (p:c4) (s:d9) (v:d9) (done:List e7) (x:e7):Z9 Tryz.prog 36 [(true,[.sl false [.i .i64 0,.s [],.i .i64 0] (p.Decls.map d8.cells),.sl false [.i .i64 0,.s [],.sl false [.s [],.i .i64 0,.s []] [],.sl false [.i .i64 0,.s [],.sl false [.s [],.i .i64 0,.s []] [],.i .i64 0,.s [],.i .i64 0,.s [],.s [],.i .i64 0,.s []] []] (p.Rules.map (c6.cells false false))]),(true,[.sl false [.s [],.i .i64 0,.sl false [.sl false [.i .i64 0,.s []] []] []] (s.Rels.map (c9.cells false false))]),(true,[.sl false [.s [],.i .i64 0,.sl false [.sl false [.i .i64 0,.s []] []] []] (v.Rels.map (c9.cells false false))]),(false,[.sl false [.s [],.sl false [.i .i64 0,.s []] [],.i .i64 0,.sl false [.s [],.i .i64 0,.s []] []] (done.map (e7.cells false false))]),(true,[.s x.Name,.sl false [.i .i64 0,.s []] (x.Row.V.map c7.cells),.i .i64 x.Rule,.sl false [.s [],.i .i64 0,.s []] (x.Env.Binds.map d5.cells)])] [] (.one (false,[.b (b3j p s v&&a6j p s v done x)])):=by
 refine sx' false false none Tryz.func36 b2E [.t 10] [(103,[],a3W),(104,[],a7M)] ?_
 intro hb hE
 simp only [go_sem];(repeat' first | apply CJ.mk | intro hc);all_goals try exact om'
 exact b0a hc
noncomputable def a6a:CT:=i3 (fun (x:c4×d9×d9×(List e7)×e7)=>b6m x.1 x.2.1 x.2.2.1 x.2.2.2.1 x.2.2.2.2)
@[go_sem] def c5d:=fun x0 x1 x2 x3 x4 x5 x6 x7 x8=>nm' (fQ' a6a rfl (⟨x0,x1⟩,⟨x2⟩,⟨x3⟩,x4,⟨x5,⟨x6⟩,x7,⟨x8⟩⟩))
end Go.Aw
