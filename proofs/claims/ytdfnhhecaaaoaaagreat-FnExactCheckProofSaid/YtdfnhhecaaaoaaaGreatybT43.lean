/- Steps of a proof: what the reference asks of them; lists of steps. No condition. -/
import Derived.Test.YtdfnhhecaaaoaaaGreatybT42
namespace Go.Aw
open Go.Proofs
attribute [local irreducible] aft blk lpK retK AW Z9
set_option linter.all false
set_option maxRecDepth 100000
set_option maxHeartbeats 4000000
attribute [local irreducible] RM
noncomputable def stZ (p:c4) (s v:d8) (done:List d9) (e:e8) (l:d5):Bool:=bif l.Kind==3 then n8 l.Op (j4 e l.A).1 (j4 e l.B).1 else
 !(l.Kind==1&&(!z5 (w6 s l.Atom.Name).1.Rows (k9 e l.Atom.Args).1&&!(p9 p l.Atom.Name==3&&b0d done l.Atom.Name (k9 e l.Atom.Args).1)))&&!(l.Kind==2&&(z5 (w6 s l.Atom.Name).1.Rows (k9 e l.Atom.Args).1 || z5 (w6 v l.Atom.Name).1.Rows (k9 e l.Atom.Args).1))
theorem stZ_eq (p:c4) (s v:d8) (done:List d9) (e:e8) (l:d5):stZ p s v done e l=(stH p s done e l&&(a5C s e l&&a5C v e l)):=by
 rw [stZ,stH,a5C,a5C]
 generalize z5 (w6 s l.Atom.Name).1.Rows (k9 e l.Atom.Args).1=a
 generalize z5 (w6 v l.Atom.Name).1.Rows (k9 e l.Atom.Args).1=b
 generalize (p9 p l.Atom.Name==3&&b0d done l.Atom.Name (k9 e l.Atom.Args).1)=c
 generalize n8 l.Op (j4 e l.A).1 (j4 e l.B).1=d
 by_cases h1:l.Kind=1
 ·rw [h1];cases a<;>cases b<;>cases c<;>cases d<;>rfl
 ·by_cases h2:l.Kind=2
  ·rw [h2];cases a<;>cases b<;>cases c<;>cases d<;>rfl
  ·rw [show (l.Kind==1)=false by simpa using h1,show (l.Kind==2)=false by simpa using h2]
   cases l.Kind==3<;>cases d<;>rfl
theorem b2V {α:Type} (f g:α→Bool):∀ l:List α,(l.all fun x=>f x&&g x)=(l.all f&&l.all g)
 | []=>rfl
 | x::l=>by rw [List.all_cons,List.all_cons,List.all_cons,b2V f g l];cases f x<;>cases g x<;>cases l.all f<;>simp
theorem allZ (p:c4) (r:c6) (s v:d8) (done:List d9) (e:e8):r.Body.all (stZ p s v done e)=(r.Body.all (stH p s done e)&&(a1T r s e&&a1T r v e)):=by
 rw [a1T,a1T,← b2V,← b2V,show stZ p s v done e=_ from funext (stZ_eq p s v done e)]
theorem c5R {p:c4} {s v:d8} {done:List d9} {x:d9} (h:(x.Rule < 0∨(p.Rules.length:Int)≤x.Rule)∨a2X x.Env=false):a8x p s v done x=false:=by
 rw [a8x]
 rcases h with (h | h) | h
 ·rw [decide_eq_false (p:=0≤x.Rule) (by omega)];rfl
 ·rw [decide_eq_false (p:=x.Rule < (p.Rules.length:Int)) (by omega)];simp
 ·rw [h];simp
theorem c5S {p:c4} {r:c6} {s v:d8} {done:List d9} {x:d9} (hR:i9 r=true) (h:((r.Head.Name==x.Name)=false∨((v7 p x.Name).Kind != 3)=true)∨¬ x.Env.Binds.map d4.Var=bif i9 r then a0S r else []):a8y p r s v done x=false:=by
 rw [hR,cond_true] at h
 refine b7h ?_
 cases hn:(r.Head.Name==x.Name) with
 | false=>exact .inl (.inr rfl)
 | true=>
   rw [hn] at h
   rcases h with (h | h) | h
   ·cases h
   ·refine .inl (.inl ?_)
    rw [show r.Head.Name=x.Name by simpa using hn,p9,show ((v7 p x.Name).Kind==3)=false by simpa [bne] using h,Bool.and_false]
   ·exact .inr h
@[go_sem] def b5B:ACode:=q' 5 [ao (.box 2 (.t 0)),ao (.box 1 (.t 1)),ao (.box 1 (.t 2)),ax (o' 9 (.box 4 (.t 4))),ab 10 false] (.seq (q' 24 [aG 2 9,ao (.bin .lss (.t 25) (k' 0)),am
 26,au (.fa 2 (.t 9)) 27 false,au (.ld false 1 (.t 28)) 27 false,au (.fa 1 (.t 5)) 27 false,au (.ld false 1 (.t 30)) 27 false,au (.len (.t 31)) 27 false,au
 (.bin .geq (.t 29) (.t 32)) 27 false,ao (.pick (.t 27) (bb true) (.t 33)),am 34,au (.fa 3 (.t 9)) 35 false,au (.ld true 1 (.t 36)) 35 false,au (.call 209 [.t
 37]) 35 false,au (.not (.t 38)) 35 false,ao (.pick (.t 35) (bb true) (.t 39))] (.cond (.t 40) (q' 0 [ab 10 false] .ret) .skip)) (q' 41 [aG 1 5,aG 2 9,ai 4 42
 44,aE 4,ax (w' 11 [.i .i64,.s,.sl [.s [],.i .i64 0,.s []],.sl [.i .i64 0,.s [],.sl false [.s [],.i .i64 0,.s []] [],.i .i64 0,.s [],.i .i64 0,.s
 [],.s [],.i .i64 0,.s []]]),aS 4 11 46] (.seq (.seq (G' 47 [af 1 11,aG 0 47,aG 0 9,ao (.bin .neq (.t 49) (.t 51)),am 52,au (.ld true 2 (.t 5)) 53 false,au
 (.fa 0 (.t 9)) 53 false,au (.ld false 1 (.t 55)) 53 false,au (.call 116 [.t 54,.t 56]) 53 false,au (.fl false 0 1 (.t 57)) 53 false,au (.bin .neq (.t 58) (k'
 3)) 53 false,ao (.pick (.t 53) (bb true) (.t 59)),am 60,au (.fa 3 (.t 9)) 61 false,au (.ld true 1 (.t 62)) 61 false,au (.call 211 [.t 63]) 61 false,au (.ld
 true 4 (.t 11)) 61 false,au (.call 184 [.t 65]) 61 false,au (.call 210 [.t 64,.t 66]) 61 false,au (.not (.t 67)) 61 false,ao (.pick (.t 61) (bb true) (.t
 68))]) (.cond (.t 69) (q' 0 [ab 10 false] .ret) .skip)) (q' 71 [af 3 9,aE 1,af 1 11,aG 1 73,ac 145 [72,75],aV 70,ao (.ext (.t 70) 0),ao (.ext (.t 70) 1),ax
 (w' 12 [.sl [.i .i64 0,.s []]]),aS 1 12 77,aV 13] (.seq (q' 79 [ae 1 12,af 1 9,aE 1,ac 212 [79,81],ao (.not (.t 82))] (.cond (.t 83) (q' 0 [ab 10 false]
 .ret) .skip)) (.seq (q' 84 [aG 3 11,aN,aK 0] (.block 0 (.loop (q' 88 [ar 87 86] (.seq (.cond (.t 88) .skip (.exit 0)) (.seq (.block 1 (q' 89 [am 87,aV 14] (q'
 90 [aG 3 11,am 14,aI 10,aE 10,ax (w' 15 [.i .i64,.s,.sl [.s [],.i .i64 0,.s []],.i .i64,.s,.i .i64,.s,.s,.i .i64,.s]),aS 10 15 94] (.seq (q' 95 [aG
 0 15,ao (.bin .eql (.t 96) (k' 3))] (.cond (.t 97) (q' 99 [af 3 9,aE 1,af 4 15,aE 3,ac 213 [100,102],aV 98,ao (.ext (.t 98) 0),ao (.ext (.t 98) 1),ax (w' 16
 [.i .i64,.s]),aS 2 16 104,aV 17] (q' 107 [af 3 9,aE 1,af 7 15,aE 3,ac 213 [108,110],aV 106,ao (.ext (.t 106) 0),ao (.ext (.t 106) 1),ax (w' 18 [.i .i64,
 .s]),aS 2 18 112,aV 19] (.seq (q' 114 [aG 3 15,ae 2 16,ae 2 18,ac 214 [115,116,117],ao (.not (.t 118))] (.cond (.t 119) (q' 0 [ab 10 false] .ret) .skip))
 (.exit 1)))) .skip)) (q' 121 [af 3 9,aE 1,af 1 15,aG 1 123,ac 145 [122,125],aV 120,ao (.ext (.t 120) 0),ao (.ext (.t 120) 1),ax (w' 20 [.sl [.i .i64 0,.s
 []]]),aS 1 20 127,aV 21] (q' 129 [ae 1 6,af 1 15,aG 0 130,ae 1 20,ac 215 [129,132,133],aV 22] (q' 135 [ae 2 5,af 1 15,aG 0 136,ac 116 [135,138],ao (.fl false
 0 1 (.t 139)),ao (.bin .eql (.t 140) (k' 3)),am 141,au (.mov (.t 3)) 142 true,au (.fa 1 (.t 15)) 142 true,au (.fa 0 (.t 144)) 142 true,au (.ld false 1 (.t
 145)) 142 true,au (.ld true 1 (.t 20)) 142 true,au (.call 216 [.t 143,.t 146,.t 147]) 142 true,ao (.pick (.t 142) (.t 148) (bb false)),aV 23] (.seq (q' 150
 [aG 0 15,ao (.bin .eql (.t 151) (k' 1)),am 152,au (.mov (.t 22)) 153 true,au (.not (.t 154)) 153 true,ao (.pick (.t 153) (.t 155) (bb false)),am 156,au (.mov
 (.t 23)) 157 true,au (.not (.t 158)) 157 true,ao (.pick (.t 157) (.t 159) (bb false))] (.cond (.t 160) (q' 0 [ab 10 false] .ret) .skip)) (q' 161 [aG 0 15,ao
 (.bin .eql (.t 162) (k' 2)),am 163,au (.mov (.t 22)) 164 true,au (.mov (.t 165)) 164 true,au (.ld true 1 (.t 7)) 166 false,au (.fa 1 (.t 15)) 166 false,au
 (.fa 0 (.t 168)) 166 false,au (.ld false 1 (.t 169)) 166 false,au (.ld true 1 (.t 20)) 166 false,au (.call 215 [.t 167,.t 170,.t 171]) 166 false,au (.pick
 (.t 166) (bb true) (.t 172)) 164 true,ao (.pick (.t 164) (.t 173) (bb false))] (.cond (.t 174) (q' 0 [ab 10 false] .ret) .skip)))))))))) (g' 175 [aA
 87]))))))) (q' 0 [ab 10 true] .ret)))))))
theorem b8A (p:c4) (s:d8) (v:d8) (done:List d9) (x:d9) (hpre:a2Y p=true∧s9 s=true∧s9 v=true):Z9 Tryz.prog 104 [(true,[.sl false [.i .i64 0,.s [],.i .i64 0] (p.Decls.map d7.cells),.sl false [.i .i64 0,.s [],.sl false [.s [],.i .i64 0,.s []] [],.sl false [.i .i64 0,.s [],.sl false [.s [],.i .i64 0,.s []] [],.i .i64 0,.s [],.i .i64 0,.s [],.s [],.i .i64 0,.s []] []] (p.Rules.map (c6.cells false false))]),(true,[.sl false [.s [],.i .i64 0,.sl false [.sl false [.i .i64 0,.s []] []] []] (s.Rels.map (c9.cells false false))]),(true,[.sl false [.s [],.i .i64 0,.sl false [.sl false [.i .i64 0,.s []] []] []] (v.Rels.map (c9.cells false false))]),(false,[.sl false [.s [],.sl false [.i .i64 0,.s []] [],.i .i64 0,.sl false [.s [],.i .i64 0,.s []] []] (done.map (d9.cells false false))]),(true,[.s x.Name,.sl false [.i .i64 0,.s []] (x.Row.V.map c7.cells),.i .i64 x.Rule,.sl false [.s [],.i .i64 0,.s []] (x.Env.Binds.map d4.cells)])] [] (.one (false,[.b (a8x p s v done x)])):=by
 refine sx' false false none Tryz.func104 b5B [.t 10] [(209,[],a7L),(116,[],y7),(211,[],a5a),(184,[],a2A),(210,[],a1u),(145,[],a4X),(212,[],y3),(213,[],a4Y),(214,[],a3P),(215,[],a7O),(216,[],a4Z)] ?_
 intro hb hE
 obtain ⟨hg,hs,hv⟩:=hpre
 have hP:=a8r (a1c (a1k hg))
 have hN:=(a8p (by simpa using a1k hg)).2.2
 simp only [go_sem];(repeat' first | apply CJ.mk | intro hc);all_goals try exact om'
 ·exact (c5R hc).symm
 ·rename_i h
  have:=(b6V.1 h.2).2
  omega
 ·rename_i h
  rw [a5u (by omega) (by omega) h.2]
  exact (c5S (hP.1 _ (a7S default (by omega))) hc).symm
 ·rename_i h
  exact (b0i (hP.1 _ (a7S default (by omega)))).2
 ·rename_i h h2
  rw [a5u (by omega) (by omega) h.2]
  exact (b7i hc).symm
 rename_i h h2
 rw [a5u (by omega) (by omega) h.2]
 have hR:=hP.1 _ (a7S (l:=p.Rules) (i:=x.Rule.toNat) default (by omega))
 have hK:=fun hk=>b3v hN (i:=x.Rule.toNat) (by omega) hk
 generalize p.Rules.getD x.Rule.toNat default=r at hR hK h2 hc ⊢
 rw [hR,cond_true] at h2
 have hn:r.Head.Name=x.Name:=by simpa using h2.1.1
 have hk:p9 p r.Head.Name=3:=by rw [hn,p9];simpa [bne] using h2.1.2
 rw [b7j ⟨⟨⟨by rw [hK hk];rfl,by rw [hk];rfl⟩,h2.1.1⟩,h2.2⟩ hc,← allZ]
 have hBl:r.Body.length≤1000:=by
  have:=hR
  simp only [i9,Bool.and_eq_true,decide_eq_true_eq] at this
  omega
 refine lq' false [3,5,6,7,9,11,86] [10,12,14,18,22] [] (fun i:{i:Nat // i≤r.Body.length∧(r.Body.take i).all (stZ p s v done x.Env)=true}=>[(87,slV (.i .i64 i.1))]) nl' nl' (fun i=>r.Body.length - i.1) (⟨0,by simp⟩) ?_
 intro S0 hS0 i
 obtain ⟨j,hj,ha⟩:=i
 have hT:=fun (h1:j < r.Body.length) (h2:((r.Body.getD j default).Kind==3)=false)=>a9L hR h1 h2
 have hF:=fun (h1:j < r.Body.length) (h:stZ p s v done x.Env (r.Body.getD j default)=false)=>all_false (p:=stZ p s v done x.Env) (d:=default) h1 h
 have hZ3:((r.Body.getD j default).Kind==3)=true→stZ p s v done x.Env (r.Body.getD j default)=n8 (r.Body.getD j default).Op (j4 x.Env (r.Body.getD j default).A).1 (j4 x.Env (r.Body.getD j default).B).1:=fun h=>by rw [stZ,h];rfl
 have hZ:=fun (h:((r.Body.getD j default).Kind==3)=false)=>(show stZ p s v done x.Env (r.Body.getD j default)=_ by rw [stZ,h,cond_false,p9])
 simp only [go_sem,hS0];(repeat' first | apply CJ.mk | intro hc);all_goals try exact om'
 ·rename_i h3
  exact (hF (by omega) (by rw [hZ3 h3];exact hc)).symm
 ·rename_i h3
  exact nx0 ⟨j+1,by omega,v8 (p:=stZ p s v done x.Env) default (by omega) ha (by rw [hZ3 h3];exact hc)⟩
 ·exact (hT (by omega) hc).2
 ·rename_i h3
  exact (hF (by omega) (by rw [hZ h3,hc.1.1,hc.1.2,hc.2];rfl)).symm
 ·rename_i h3 h4
  refine (hF (by omega) ?_).symm
  rw [hZ h3,hc.1]
  rcases hc.2 with h | h<;>rw [h]<;>simp
 ·rename_i h3 h4
  exact nx0 ⟨j+1,by omega,v8 (p:=stZ p s v done x.Env) default (by omega) ha (by rw [hZ h3,← Bool.and_assoc,h4,hc];rfl)⟩
 ·rw [f9 (by omega)] at ha
  exact ha.symm
noncomputable def a7P:CT:=l5 (fun (x:c4×d8×d8×(List d9)×d9) h=>b8A x.1 x.2.1 x.2.2.1 x.2.2.2.1 x.2.2.2.2 h)
@[go_sem] def c6G:=fun x0 x1 x2 x3 x4 x5 x6 x7 x8=>nm' (fP' a7P rfl (⟨x0,x1⟩,⟨x2⟩,⟨x3⟩,x4,⟨x5,⟨x6⟩,x7,⟨x8⟩⟩))
theorem b0h {p:c4} {s v:d8} (h:b0g p s v=true):(a2Y p=true∧s9 s=true)∧s9 v=true:=by
 simp only [b0g,a5j,Bool.and_eq_true] at h
 exact ⟨h.1.1.1,h.1.2⟩
noncomputable def a6k (p:c4) (s v:d8) (l:List d9) (i:Nat):Bool:=!a8x p s v (cut l 0 i) (l.getD i default)
noncomputable def a9k (p:c4) (s v:d8) (l:List d9):Int:=bif !b0g p s v || decide (5000 < (l.length:Int)) then -2 else bif decide (u5 l.length (a6k p s v l) < l.length) then ((u5 l.length (a6k p s v l):Nat):Int) else -1
theorem b6Q {p:c4} {s v:d8} {l:List d9} (h:b0g p s v=false∨5000 < (l.length:Int)):a9k p s v l=-2:=by
 rw [a9k]
 rcases h with h | h
 ·rw [h];rfl
 ·rw [decide_eq_true h,Bool.or_true];rfl
theorem b3l {p:c4} {s v:d8} {l:List d9} (h:b0g p s v=true) (h2:¬ 5000 < (l.length:Int)):a9k p s v l=bif decide (u5 l.length (a6k p s v l) < l.length) then ((u5 l.length (a6k p s v l):Nat):Int) else -1:=by
 rw [a9k,h,decide_eq_false h2];rfl
theorem b9G {n i:Nat} {q:Nat→Bool} (h:∀ j,j < i→q j=false) (hq:q i=true) (hi:i < n):(bif decide (u5 n q < n) then ((u5 n q:Nat):Int) else -1)=i:=by
 rw [y9 h hq hi,decide_eq_true hi];rfl
theorem b9H {n:Nat} {q:Nat→Bool} (h:∀ j,j < n→q j=false):(bif decide (u5 n q < n) then ((u5 n q:Nat):Int) else -1)=-1:=by
 rw [y8 h,decide_eq_false (Nat.lt_irrefl _)];rfl
@[go_sem] def a6s:ACode:=q' 4 [ao (.box 2 (.t 0)),ao (.box 1 (.t 1)),ao (.box 1 (.t 2)),az 8 0] (.seq (q' 11 [ae 2 4,ae 1 5,ae 1 6,ac 109 [11,12,13],ao (.not (.t 14)),am 15,au (.mov (.t
 3)) 16 false,au (.len (.t 17)) 16 false,au (.bin .gtr (.t 18) (k' 5000)) 16 false,ao (.pick (.t 16) (bb true) (.t 19))] (.cond (.t 20) (q' 8 [ao (.mov (.k (.v
 false [.c (.i .i64 (-2))])))] .ret) .skip)) (.seq (q' 21 [am 3,aN,aK 0] (.block 0 (.loop (q' 24 [ar 23 22] (.seq (.cond (.t 24) .skip (.exit 0)) (.seq (.block
 1 (q' 25 [am 23,ai 4 21 23,aE 4,ax (w' 10 [.s,.sl [.i .i64 0,.s []],.i .i64,.sl [.s [],.i .i64 0,.s []]]),av 9 25,aS 4 10 27] (.seq (G' 28 [ae 2 4,ae 1
 5,ae 1 6,aM [3,9],ao (.slc 4 (.t 31) none (some (.t 32)) none),ae 4 10,ac 110 [28,29,30,33,34],ao (.not (.t 35))]) (.cond (.t 36) (q' 37 [am 9,aV 8] .ret)
 .skip)))) (g' 38 [aA 23]))))))) (q' 8 [ao (.mov (.k (.v false [.c (.i .i64 (-1))])))] .ret)))
theorem a7X (p:c4) (s:d8) (v:d8) (l:List d9):Z9 Tryz.prog 45 [(true,[.sl false [.i .i64 0,.s [],.i .i64 0] (p.Decls.map d7.cells),.sl false [.i .i64 0,.s [],.sl false [.s [],.i .i64 0,.s []] [],.sl false [.i .i64 0,.s [],.sl false [.s [],.i .i64 0,.s []] [],.i .i64 0,.s [],.i .i64 0,.s [],.s [],.i .i64 0,.s []] []] (p.Rules.map (c6.cells false false))]),(true,[.sl false [.s [],.i .i64 0,.sl false [.sl false [.i .i64 0,.s []] []] []] (s.Rels.map (c9.cells false false))]),(true,[.sl false [.s [],.i .i64 0,.sl false [.sl false [.i .i64 0,.s []] []] []] (v.Rels.map (c9.cells false false))]),(false,[.sl false [.s [],.sl false [.i .i64 0,.s []] [],.i .i64 0,.sl false [.s [],.i .i64 0,.s []] []] (l.map (d9.cells false false))])] [] (.one (false,[.i .i64 (a9k p s v l)])):=by
 refine sx' false false none Tryz.func45 a6s [.t 8] [(109,[],a2M),(110,[],a2N)] ?_
 intro hb hE
 simp only [go_sem];(repeat' first | apply CJ.mk | intro hc);all_goals try exact om'
 ·exact (b6Q hc).symm
 obtain ⟨hf,hl⟩:=hc
 have hg:=b0h hf
 rw [b3l hf hl]
 refine lq' false [3,4,5,6,21,22] [8,10,12] [] (fun i:{i:Nat // i≤l.length∧∀ j,j < i→a6k p s v l j=false}=>[(23,slV (.i .i64 i.1))]) nl' nl' (fun i=>l.length - i.1) (⟨0,by simp,by intro j hj;omega⟩) ?_
 intro S0 hS0 i
 obtain ⟨i,hi,ha⟩:=i
 simp only [go_sem,hS0];(repeat' first | apply CJ.mk | intro hc);all_goals try exact om'
 ·exact hg
 ·exact (b9G ha (by rw [a6k,hc];rfl) (by omega)).symm
 ·exact nx0 ⟨i+1,by omega,a3w ha (by rw [a6k,hc];rfl)⟩
 ·obtain rfl:i=l.length:=by omega
  exact (b9H ha).symm
noncomputable def a2a:CT:=i3 (fun (x:c4×d8×d8×(List d9))=>a7X x.1 x.2.1 x.2.2.1 x.2.2.2)
@[go_sem] def b9j:=fun x0 x1 x2 x3 l=>nm' (fQ' a2a rfl (⟨x0,x1⟩,⟨x2⟩,⟨x3⟩,l))
@[go_sem] def a6A:ACode:=q' 4 [ao (.box 2 (.t 0)),ao (.box 1 (.t 1)),ao (.box 1 (.t 2)),az 8 0] (.seq (q' 10 [ae 2 4,ae 1 5,ae 1 6,ac 103 [10,11,12],ao (.not (.t 13)),am 14,au (.mov (.t
 3)) 15 false,au (.len (.t 16)) 15 false,au (.bin .gtr (.t 17) (k' 5000)) 15 false,ao (.pick (.t 15) (bb true) (.t 18))] (.cond (.t 19) (q' 8 [ao (.mov (.k (.v
 false [.c (.i .i64 (-2))])))] .ret) .skip)) (.seq (q' 20 [am 3,aN,aK 0] (.block 0 (.loop (q' 23 [ar 22 21] (.seq (.cond (.t 23) .skip (.exit 0)) (.seq (.block
 1 (q' 24 [am 22,aV 9] (.seq (G' 25 [ae 2 4,ae 1 5,ae 1 6,aM [3,9],ao (.slc 4 (.t 28) none (some (.t 29)) none),aM [3,9],aI 4,aE 4,ac 104 [25,26,27,30,34],ao
 (.not (.t 35))]) (.cond (.t 36) (q' 37 [am 9,aV 8] .ret) .skip)))) (g' 38 [aA 22]))))))) (q' 8 [ao (.mov (.k (.v false [.c (.i .i64 (-1))])))] .ret)))
theorem a8f (p:c4) (s:d8) (v:d8) (l:List d9):Z9 Tryz.prog 44 [(true,[.sl false [.i .i64 0,.s [],.i .i64 0] (p.Decls.map d7.cells),.sl false [.i .i64 0,.s [],.sl false [.s [],.i .i64 0,.s []] [],.sl false [.i .i64 0,.s [],.sl false [.s [],.i .i64 0,.s []] [],.i .i64 0,.s [],.i .i64 0,.s [],.s [],.i .i64 0,.s []] []] (p.Rules.map (c6.cells false false))]),(true,[.sl false [.s [],.i .i64 0,.sl false [.sl false [.i .i64 0,.s []] []] []] (s.Rels.map (c9.cells false false))]),(true,[.sl false [.s [],.i .i64 0,.sl false [.sl false [.i .i64 0,.s []] []] []] (v.Rels.map (c9.cells false false))]),(false,[.sl false [.s [],.sl false [.i .i64 0,.s []] [],.i .i64 0,.sl false [.s [],.i .i64 0,.s []] []] (l.map (d9.cells false false))])] [] (.one (false,[.i .i64 (a9k p s v l)])):=by
 refine sx' false false none Tryz.func44 a6A [.t 8] [(103,[],a3Y),(104,[],a7P)] ?_
 intro hb hE
 simp only [go_sem];(repeat' first | apply CJ.mk | intro hc);all_goals try exact om'
 ·exact (b6Q hc).symm
 obtain ⟨hf,hl⟩:=hc
 have hg:=b0h hf
 rw [b3l hf hl]
 refine lq' false [3,4,5,6,21] [8,10,12] [] (fun i:{i:Nat // i≤l.length∧∀ j,j < i→a6k p s v l j=false}=>[(22,slV (.i .i64 i.1))]) nl' nl' (fun i=>l.length - i.1) (⟨0,by simp,by intro j hj;omega⟩) ?_
 intro S0 hS0 i
 obtain ⟨i,hi,ha⟩:=i
 simp only [go_sem,hS0];(repeat' first | apply CJ.mk | intro hc);all_goals try exact om'
 ·exact hg
 ·exact (b9G ha (by rw [a6k,hc];rfl) (by omega)).symm
 ·exact nx0 ⟨i+1,by omega,a3w ha (by rw [a6k,hc];rfl)⟩
 ·obtain rfl:i=l.length:=by omega
  exact (b9H ha).symm
noncomputable def a2f:CT:=i3 (fun (x:c4×d8×d8×(List d9))=>a8f x.1 x.2.1 x.2.2.1 x.2.2.2)
@[go_sem] def b9r:=fun x0 x1 x2 x3 l=>nm' (fQ' a2f rfl (⟨x0,x1⟩,⟨x2⟩,⟨x3⟩,l))
end Go.Aw
