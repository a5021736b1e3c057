/- Rows, relations, stores. No condition. -/
import Derived.Test.YtdfnhhecaaaoaaaGreatybG3
import Derived.Test.YtdfnhhecaaaoaaaGreatybG8
import Derived.Test.YtdfnhhecaaaoaaaGreatnBwtyb
import Derived.Test.YtdfnhhecaaaoaaaGreatnMx1yb
namespace Go.Aw
open Go.Proofs
attribute [local irreducible] aft blk lpK retK AW Z9
set_option linter.all false
set_option maxRecDepth 100000
theorem s8 {α:Type} {l:List α} {i:Nat} (d:α) (h:i < l.length):l.drop i=l.getD i d::l.drop (i+1):=by
 rw [i6 d h];exact List.drop_eq_getElem_cons h
def a0J (r:d6):Bool:=decide ((r.V.length:Int)≤6)&&r.V.all i8
def a0h:List c7→List c7→Int
 | [],[]=>0
 | [],_::_=>-1
 | _::_,[]=>1
 | x::a,y::b=>bif o9 x y then -1 else bif o9 y x then 1 else a0h a b
def a0w:List c7→List c7→Int
 | [],[]=>0
 | [],_::_=>-1
 | _::_,[]=>1
 | x::a,y::b=>if u7 x y=0 then a0w a b else u7 x y
def a5g (a b:d6):Int:=bif a0J a&&a0J b then a0h a.V b.V else 2
def w7 (r:f8) (i:Nat):Bool:=!((r.Rows.getD i default).V.length==r.Arity) || !a0J (r.Rows.getD i default) || decide (0 < i)&&!(a0h (r.Rows.getD (i - 1) default).V (r.Rows.getD i default).V==-1)
def a0g (r:f8):Bool:=decide (0≤r.Arity)&&decide (r.Arity≤6)&&decide ((r.Rows.length:Int)≤300)&&!a0T r.Rows.length (w7 r)
def a0c (l:List c9) (i:Nat):Bool:=!a1s (l.getD i default).Name || !a0g (l.getD i default).Rel || decide (0 < i)&&!Op.bytesLess (l.getD (i - 1) default).Name (l.getD i default).Name
def s9 (s:d8):Bool:=decide ((s.Rels.length:Int)≤24)&&!a0T s.Rels.length (a0c s.Rels)
theorem a1h {α:Type} {l:List α} {i:Nat} (h:l.length≤i):l.drop i=[]:=List.drop_eq_nil_of_le h
theorem c7T {a b:List c7} {i:Nat} (hi:i≤a.length) (hj:i≤b.length) (h:¬ (i < a.length∧i < b.length)):a0h (a.drop i) (b.drop i)=if a.length < b.length then -1 else if b.length < a.length then 1 else 0:=by
 by_cases h1:a.length < b.length
 ·rw [if_pos h1,a1h (show a.length≤i by omega),s8 (l:=b) default (by omega)];rfl
 ·rw [if_neg h1]
  by_cases h2:b.length < a.length
  ·rw [if_pos h2,a1h (show b.length≤i by omega),s8 (l:=a) default (by omega)];rfl
  ·rw [if_neg h2,a1h (show a.length≤i by omega),a1h (show b.length≤i by omega)];rfl
theorem b2X {a b:List c7} {i:Nat} (hi:i≤a.length) (hj:i≤b.length) (h:¬ (i < a.length∧i < b.length)):a0w (a.drop i) (b.drop i)=if a.length < b.length then -1 else if b.length < a.length then 1 else 0:=by
 by_cases h1:a.length < b.length
 ·rw [if_pos h1,a1h (show a.length≤i by omega),s8 (l:=b) default (by omega)];rfl
 ·rw [if_neg h1]
  by_cases h2:b.length < a.length
  ·rw [if_pos h2,a1h (show b.length≤i by omega),s8 (l:=a) default (by omega)];rfl
  ·rw [if_neg h2,a1h (show a.length≤i by omega),a1h (show b.length≤i by omega)];rfl
theorem a8u:∀ {a b:List c7},(∀ x∈a,i8 x=true)→(∀ x∈b,i8 x=true)→sgn (a0w a b)=a0h a b
 | [],[],_,_=>by decide
 | [],_::_,_,_=>by simp only [a0w,a0h];decide
 | _::_,[],_,_=>by simp only [a0w,a0h];decide
 | x::a,y::b,ha,hb=>by
   have h:=c0p (ha x (by simp)) (hb y (by simp))
   have ih:=a8u (a:=a) (b:=b) (fun z hz=>ha z (by simp [hz])) (fun z hz=>hb z (by simp [hz]))
   rw [a0w,a0h]
   unfold vCmp at h
   split
   ·rename_i h0
    rw [h0] at h
    cases h1:o9 x y with
    | true=>rw [h1,cond_true] at h;unfold sgn at h;omega
    | false=>
      cases h2:o9 y x with
      | true=>rw [h1,h2,cond_true,cond_false] at h;unfold sgn at h;omega
      | false=>exact ih
   ·rename_i h0
    cases h1:o9 x y with
    | true=>rw [h1] at h;exact h
    | false=>
      cases h2:o9 y x with
      | true=>rw [h1,h2] at h;exact h
      | false=>rw [h1,h2] at h;unfold sgn at h;simp only [cond_false] at h;omega
@[go_sem] def b1d:ACode:=q' 2 [ao (.box 2 (.t 0)),ao (.box 2 (.t 1)),ao (.mov (bb false))] (.seq (q' 5 [aG 1 2,ao (.bin .eql (.t 6) (.k (.v false [.c (.s [])]))),am 7,au (.fa 1 (.t 3))
 8 true,au (.ld false 1 (.t 9)) 8 true,au (.bin .eql (.t 10) (.k (.v false [.c (.s [])]))) 8 true,ao (.pick (.t 8) (.t 11) (bb false))] (.cond (.t 12) (q' 13
 [aG 0 2,aG 0 3,ar 14 16,aV 4] .ret) .skip)) (q' 18 [aG 1 2,aG 1 3,ar 19 21,aV 4] .ret))
theorem b4s (a:c7) (b:c7):Z9 Tryz.prog 348 [(true,[.i .i64 a.N,.s a.S]),(true,[.i .i64 b.N,.s b.S])] [] (.one (false,[.b (o9 a b)])):=by
 refine sx' false false none Tryz.func348 b1d [.t 4] [] ?_
 intro hb hE
 simp only [go_sem];(repeat' first | apply CJ.mk | intro hc);all_goals try exact om'
 ·rw [o9,hc.1,hc.2];rfl
 ·rw [o9,hc];rfl
noncomputable def a4U:CT:=i3 (fun (x:c7×c7)=>b4s x.1 x.2)
@[go_sem] def c3v:=fun x0 x1 x2 x3=>nm' (fQ' a4U rfl (⟨x0,x1⟩,⟨x2,x3⟩))
@[go_sem] def a8X:ACode:=q' 2 [ao (.box 1 (.t 0)),ao (.box 1 (.t 1)),aK 0] (.seq (q' 5 [aK 0] (.block 0 (.loop (.seq (q' 6 [am 5,aG 0 2,aN,ar 6 9,am 10,au (.mov (.t 5)) 11 true,au (.fa
 0 (.t 3)) 11 true,au (.ld false 1 (.t 13)) 11 true,au (.len (.t 14)) 11 true,au (.bin .lss (.t 12) (.t 15)) 11 true,ao (.pick (.t 11) (.t 16) (bb false))]
 (.cond (.t 17) .skip (.exit 0))) (.seq (.block 1 (.seq (.seq (G' 20 [aG 0 2,am 5,aI 2,aE 2,aG 0 3,am 5,aI 2,aE 2,ac 348 [24,29]]) (.cond (.t 30) (q' 4 [ao
 (.mov (.k (.v false [.c (.i .i64 (-1))])))] .ret) .skip)) (.seq (G' 31 [aG 0 3,am 5,aI 2,aE 2,aG 0 2,am 5,aI 2,aE 2,ac 348 [35,40]]) (.cond (.t 41) (q' 4 [aK
 1] .ret) .skip)))) (g' 18 [aB 5])))))) (.seq (q' 42 [aG 0 2,aN,aG 0 3,aN,ar 44 47] (.cond (.t 48) (q' 4 [ao (.mov (.k (.v false [.c (.i .i64 (-1))])))] .ret)
 .skip)) (.seq (q' 49 [aG 0 2,aN,aG 0 3,aN,ao (.bin .gtr (.t 51) (.t 54))] (.cond (.t 55) (q' 4 [aK 1] .ret) .skip)) (q' 4 [aK 0] .ret))))
theorem b1G (a:d6) (b:d6):Z9 Tryz.prog 261 [(true,[.sl false [.i .i64 0,.s []] (a.V.map c7.cells)]),(true,[.sl false [.i .i64 0,.s []] (b.V.map c7.cells)])] [] (.one (false,[.i .i64 (a0h a.V b.V)])):=by
 refine sx' false false none Tryz.func261 a8X [.t 4] [(348,[],a4U)] ?_
 intro hb hE
 simp only [go_sem];(repeat' first | apply CJ.mk | intro hc);all_goals try exact om'
 refine lq' false [2,3] [4,6] [] (fun i:{i:Nat // i≤a.V.length∧i≤b.V.length∧a0h (a.V.drop i) (b.V.drop i)=a0h a.V b.V}=>[(5,slV (.i .i64 i.1))]) nl' nl' (fun i=>a.V.length - i.1) (⟨0,by simp⟩) ?_
 intro S0 hS0 i
 obtain ⟨i,hi,hj,he⟩:=i
 simp only [go_sem,hS0];(repeat' first | apply CJ.mk | intro hc);all_goals try exact om'
 ·rw [← he,s8 (l:=a.V) default (by omega),s8 (l:=b.V) default (by omega),a0h,hc];rfl
 ·rename_i h1
  rw [← he,s8 (l:=a.V) default (by omega),s8 (l:=b.V) default (by omega),a0h,h1,hc];rfl
 ·rename_i h1
  have h2:=he
  rw [s8 (l:=a.V) default (by omega),s8 (l:=b.V) default (by omega),a0h,h1,hc] at h2
  exact nx0 ⟨i+1,by omega,by omega,h2⟩
 all_goals have q:(decide ((i:Int) < a.V.length)&&decide ((i:Int) < b.V.length))=false:=by assumption
 all_goals rw [Bool.and_eq_false_iff,decide_eq_false_iff_not,decide_eq_false_iff_not] at q
 all_goals rw [← he,c7T hi hj (by omega)]
 ·rw [if_pos (by omega)]
 ·rw [if_neg (by omega),if_pos (by omega)]
 ·rw [if_neg (by omega),if_neg (by omega)]
noncomputable def a3R:CT:=i3 (fun (x:d6×d6)=>b1G x.1 x.2)
@[go_sem] def c1R:=fun x0 x1=>nm' (fQ' a3R rfl (⟨x0⟩,⟨x1⟩))
@[go_sem] def b5x:ACode:=q' 0 [ax (o' 1 (.box 1 (.t 0))),ab 2 false] (.seq (q' 5 [aG 0 1,aN,ao (.bin .gtr (.t 7) (k' 6))] (.cond (.t 8) (q' 0 [ab 2 false] .ret) .skip)) (.seq (q' 9 [aG
 0 1,aN,aK 0] (.block 0 (.loop (q' 13 [ar 12 11] (.seq (.cond (.t 13) .skip (.exit 0)) (.seq (.block 1 (q' 14 [ai 2 10 12,aE 2,ax (w' 4 [.i .i64,.s]),aS 2 4
 15] (q' 16 [ae 2 4,ac 322 [16],ao (.not (.t 17))] (.cond (.t 18) (q' 0 [ab 2 false] .ret) .skip)))) (g' 19 [aA 12]))))))) (q' 0 [ab 2 true] .ret)))
theorem b8w (r:d6):Z9 Tryz.prog 309 [(true,[.sl false [.i .i64 0,.s []] (r.V.map c7.cells)])] [] (.one (false,[.b (a0J r)])):=by
 refine sx' false false none Tryz.func309 b5x [.t 2] [(322,[],w3)] ?_
 intro hb hE
 simp only [go_sem];(repeat' first | apply CJ.mk | intro hc);all_goals try exact om'
 ·rw [a0J,decide_eq_false (by omega)];rfl
 have h6:((r.V.length:Int))≤6:=by omega
 refine lq' false [10,11] [] [] (fun i:{i:Nat // i≤r.V.length∧(r.V.take i).all i8=true}=>[(12,slV (.i .i64 i.1))]) nl' nl' (fun i=>r.V.length - i.1) (⟨0,by simp⟩) ?_
 intro S0 hS0 i
 obtain ⟨i,hi,ha⟩:=i
 simp only [go_sem,hS0];(repeat' first | apply CJ.mk | intro hc);all_goals try exact om'
 ·rw [a0J,all_false (d:=default) (i:=i) (by omega) hc,Bool.and_false]
 ·exact nx0 ⟨i+1,by omega,v8 default (by omega) ha hc⟩
 ·rw [f9 (by omega)] at ha
  rw [a0J,ha,decide_eq_true h6];rfl
noncomputable def a3q:CT:=i3 (fun (x:d6)=>b8w x)
@[go_sem] def c6C:=fun x0=>nm' (fQ' a3q rfl ⟨x0⟩)
@[go_sem] def b0o:ACode:=q' 0 [ax (o' 1 (.box 2 (.t 0))),ab 2 false] (q' 3 [ae 2 1,ac 194 [3],ao (.not (.t 4)),aV 2] .ret)
theorem b3D (v:c7):Z9 Tryz.prog 202 [(true,[.i .i64 v.N,.s v.S])] [] (.one (false,[.b (!i8 v)])):=by
 refine sx' false false none Tryz.func202 b0o [.t 2] [(194,[],y6)] ?_
 intro hb hE
 simp only [go_sem];(repeat' first | apply CJ.mk | intro hc);all_goals try exact om'
noncomputable def a4r:CT:=i3 (fun (x:c7)=>b3D x)
@[go_sem] def c2G:=fun x0 x1=>nm' (fQ' a4r rfl ⟨x0,x1⟩)
@[go_sem] def c4u:ACode:=q' 4 [aK 0] (.seq (q' 6 [am 0,aN,aK 0] (.block 0 (.loop (q' 9 [ar 8 7] (.seq (.cond (.t 9) .skip (.exit 0)) (.seq (.block 1 (q' 10 [am 8,aV 5] (q' 11 [aM
 [1,0,5],aI 2,aE 2,ao (.callv (.t 11) [.t 15])] (.cond (.t 16) (q' 17 [am 5,aV 4] .ret) .skip)))) (g' 18 [aA 8]))))))) (q' 4 [ao (.mov (.k (.v false [.c (.i
 .i64 (-1))])))] .ret))
theorem c2l (l:List c7):Z9 Tryz.prog 317 [(false,[.sl false [.i .i64 0,.s []] (l.map c7.cells)]),(false,[.f 202 []])] [] (.one (false,[.i .i64 (a0H (fun y=>!i8 y) l)])):=by
 refine sx' false false none Tryz.func317 c4u [.t 4] [(202,[],a4r)] ?_
 intro hb hE
 simp only [go_sem];(repeat' first | apply CJ.mk | intro hc);all_goals try exact om'
 refine lq' false [0,1,7] [] [] (fun i:{i:Nat // i≤l.length∧(l.take i).any (fun y=>!i8 y)=false}=>[(8,slV (.i .i64 i.1))]) nl' nl' (fun i=>l.length - i.1) (⟨0,by simp⟩) ?_
 intro S0 hS0 i
 obtain ⟨i,hi,ha⟩:=i
 simp only [go_sem,hS0];(repeat' first | apply CJ.mk | intro hc);all_goals try exact om'
 ·exact (o0 (p:=fun y=>!i8 y) (d:=default) (by omega) ha (by simpa [-List.getD_eq_getElem?_getD] using hc)).symm
 ·exact nx0 ⟨i+1,by omega,j5 (p:=fun y=>!i8 y) default (by omega) ha (by simpa [-List.getD_eq_getElem?_getD] using hc)⟩
 ·exact (n9 (by rwa [f9 (by omega)] at ha)).symm
noncomputable def b3j:CT:=i3 (fun (x:(List c7))=>c2l x)
@[go_sem] def c8m:=fun l=>nm' (fQ' b3j rfl l)
@[go_sem] def c4r:ACode:=q' 0 [ab 4 false] (q' 5 [aM [0,1],ac 317 [5,6],ao (.bin .geq (.t 7) (k' 0)),aV 4] .ret)
theorem c2k (l:List c7):Z9 Tryz.prog 201 [(false,[.sl false [.i .i64 0,.s []] (l.map c7.cells)]),(false,[.f 202 []])] [] (.one (false,[.b (l.any (fun y=>!i8 y))])):=by
 refine sx' false false none Tryz.func201 c4r [.t 4] [(317,[],b3j)] ?_
 intro hb hE
 simp only [go_sem];(repeat' first | apply CJ.mk | intro hc);all_goals try exact om'
 ·exact z6 _ _
noncomputable def b3i:CT:=i3 (fun (x:(List c7))=>c2k x)
@[go_sem] def c8l:=fun l=>nm' (fQ' b3i rfl l)
@[go_sem] def b5b:ACode:=q' 0 [ax (o' 1 (.box 1 (.t 0))),ab 2 false] (q' 3 [aG 0 1,aN,ao (.bin .leq (.t 5) (k' 6)),am 6,au (.fa 0 (.t 1)) 7 true,au (.ld false 1 (.t 8)) 7 true,au (.call
 201 [.t 9,.k (.v false [.c (.f 202 [])])]) 7 true,au (.not (.t 10)) 7 true,ao (.pick (.t 7) (.t 11) (bb false)),aV 2] .ret)
theorem b8a (r:d6):Z9 Tryz.prog 97 [(true,[.sl false [.i .i64 0,.s []] (r.V.map c7.cells)])] [] (.one (false,[.b (a0J r)])):=by
 refine sx' false false none Tryz.func97 b5b [.t 2] [(201,[],b3i)] ?_
 intro hb hE
 simp only [go_sem];(repeat' first | apply CJ.mk | intro hc);all_goals try exact om'
 all_goals rw [a5k,Bool.not_not,a0J]
noncomputable def a7w:CT:=i3 (fun (x:d6)=>b8a x)
@[go_sem] def c6g:=fun x0=>nm' (fQ' a7w rfl ⟨x0⟩)
@[go_sem] def c1o:ACode:=q' 6 [aK 0] (.seq (q' 11 [am 0,aN,aK 0] (.block 0 (.loop (q' 14 [ar 13 12] (.seq (.cond (.t 14) .skip (.exit 0)) (.seq (.block 1 (q' 15 [am 13,ai 2 11 13,aE
 2,ax (w' 8 [.i .i64,.s]),av 7 15,aS 2 8 17] (.seq (q' 18 [aM [7,1],aN,ao (.bin .geq (.t 18) (.t 20))] (.cond (.t 21) (q' 6 [aK 1] .ret) .skip)) (q' 22 [aM
 [1,7],aI 2,aE 2,ax (w' 9 [.i .i64,.s]),aS 2 9 25] (q' 26 [am 2,ae 2 8,ae 2 9,ao (.callv (.t 26) [.t 27,.t 28]),aV 10] (q' 30 [am 10,ao (.bin .neq (.t 30)
 (k' 0))] (.cond (.t 31) (q' 32 [am 10,aV 6] .ret) .skip))))))) (g' 33 [aA 13]))))))) (.seq (q' 34 [am 0,aN,am 1,aN,ar 35 37] (.cond (.t 38) (q' 6 [ao (.mov
 (.k (.v false [.c (.i .i64 (-1))])))] .ret) .skip)) (q' 6 [aK 0] .ret)))
theorem c5y (a:List c7) (b:List c7):Z9 Tryz.prog 316 [(false,[.sl false [.i .i64 0,.s []] (a.map c7.cells)]),(false,[.sl false [.i .i64 0,.s []] (b.map c7.cells)]),(false,[.f 304 []])] [] (.one (false,[.i .i64 (a0w a b)])):=by
 refine sx' false false none Tryz.func316 c1o [.t 6] [(304,[],a1K)] ?_
 intro hb hE
 simp only [go_sem];(repeat' first | apply CJ.mk | intro hc);all_goals try exact om'
 refine lq' false [0,1,2,11,12] [] [] (fun i:{i:Nat // i≤a.length∧i≤b.length∧a0w (a.drop i) (b.drop i)=a0w a b}=>[(13,slV (.i .i64 i.1))]) nl' nl' (fun i=>a.length - i.1) (⟨0,by simp⟩) ?_
 intro S0 hS0 i
 obtain ⟨i,hi,hj,he⟩:=i
 simp only [go_sem,hS0];(repeat' first | apply CJ.mk | intro hc);all_goals try exact om'
 ·rw [← he,b2X hi hj (by omega),if_neg (by omega),if_pos (by omega)]
 ·rw [← he,s8 (l:=a) default (by omega),s8 (l:=b) default (by omega),a0w,if_neg (by simpa using hc)]
 ·have h2:=he
  rw [s8 (l:=a) default (by omega),s8 (l:=b) default (by omega),a0w,if_pos (by simpa using hc)] at h2
  exact nx0 ⟨i+1,by omega,by omega,h2⟩
 ·rw [← he,b2X hi hj (by omega),if_pos (by omega)]
 ·rw [← he,b2X hi hj (by omega),if_neg (by omega),if_neg (by omega)]
noncomputable def b6K:CT:=i3 (fun (x:(List c7)×(List c7))=>c5y x.1 x.2)
@[go_sem] def c8r:=fun a b=>nm' (fQ' b6K rfl (a,b))
@[go_sem] def b5e:ACode:=q' 2 [ao (.box 1 (.t 0)),ao (.box 1 (.t 1)),aK 0] (q' 5 [aG 0 2,aG 0 3,ao (.call 316 [.t 6,.t 8,.k (.v false [.c (.f 304 [])])]),aV 4] .ret)
theorem b8d (a:d6) (b:d6):Z9 Tryz.prog 199 [(true,[.sl false [.i .i64 0,.s []] (a.V.map c7.cells)]),(true,[.sl false [.i .i64 0,.s []] (b.V.map c7.cells)])] [] (.one (false,[.i .i64 (a0w a.V b.V)])):=by
 refine sx' false false none Tryz.func199 b5e [.t 4] [(316,[],b6K)] ?_
 intro hb hE
 simp only [go_sem];(repeat' first | apply CJ.mk | intro hc);all_goals try exact om'
noncomputable def a3l:CT:=i3 (fun (x:d6×d6)=>b8d x.1 x.2)
@[go_sem] def c6j:=fun x0 x1=>nm' (fQ' a3l rfl (⟨x0⟩,⟨x1⟩))
@[go_sem] def a8W:ACode:=q' 2 [ao (.box 1 (.t 0)),ao (.box 1 (.t 1)),aK 0] (.seq (q' 5 [ae 1 2,ac 309 [5],ao (.not (.t 6)),am 7,au (.ld true 1 (.t 3)) 8 false,au (.call 309 [.t 9]) 8
 false,au (.not (.t 10)) 8 false,ao (.pick (.t 8) (bb true) (.t 11))] (.cond (.t 12) (q' 4 [aK 2] .ret) .skip)) (q' 13 [ae 1 2,ae 1 3,ac 261 [13,14],aV 4]
 .ret))
theorem b1F (a:d6) (b:d6):Z9 Tryz.prog 310 [(true,[.sl false [.i .i64 0,.s []] (a.V.map c7.cells)]),(true,[.sl false [.i .i64 0,.s []] (b.V.map c7.cells)])] [] (.one (false,[.i .i64 (a5g a b)])):=by
 refine sx' false false none Tryz.func310 a8W [.t 4] [(309,[],a3q),(261,[],a3R)] ?_
 intro hb hE
 simp only [go_sem];(repeat' first | apply CJ.mk | intro hc);all_goals try exact om'
 ·rcases hc with h | h<;>simp [a5g,h]
 ·rw [a5g,hc.1,hc.2];rfl
noncomputable def a3Q:CT:=i3 (fun (x:d6×d6)=>b1F x.1 x.2)
@[go_sem] def c1Q:=fun x0 x1=>nm' (fQ' a3Q rfl (⟨x0⟩,⟨x1⟩))
theorem a3j {n:Nat} {p:Nat→Bool} (h:a0T n p=false) {j:Nat} (hj:j < n):p j=false:=by
 simp only [a0T,Bool.not_eq_false'] at h
 simpa using b2U h hj
theorem u2 {r:d6} (h:a0J r=true):∀ x∈r.V,i8 x=true:=by
 simp only [a0J,Bool.and_eq_true,List.all_eq_true] at h
 exact h.2
theorem a1V {r:f8} {i:Nat} (h:w7 r i=false):a0J (r.Rows.getD i default)=true:=by
 simp only [w7,Bool.or_eq_false_iff,Bool.not_eq_false'] at h
 exact h.1.2
theorem bRow_ge {a b:List c7} (ha:∀ x∈a,i8 x=true) (hb:∀ x∈b,i8 x=true):decide (0≤a0w a b)=!(a0h a b==-1):=by
 have h:=a8u ha hb
 unfold sgn at h
 rw [Bool.eq_iff_iff]
 simp only [decide_eq_true_eq,Bool.not_eq_true',beq_eq_false_iff_ne]
 omega
theorem c5L {r:f8} {i:Nat} (ha:a0T i (w7 r)=false):(!a0J (r.Rows.getD i default) || !((r.Rows.getD i default).V.length==r.Arity) || (decide (0 < i)&&decide (0≤a0w (r.Rows.getD (i - 1) default).V (r.Rows.getD i default).V)))=w7 r i:=by
 rw [w7]
 cases h:a0J (r.Rows.getD i default) with
 | false=>simp
 | true=>
   by_cases h0:0 < i
   ·rw [bRow_ge (u2 (a1V (a3j ha (show i - 1 < i by omega)))) (u2 h)]
    simp
   ·rw [decide_eq_false h0];simp
theorem b4J {r:f8} {i:Nat} (hi:i < r.Rows.length) (h:w7 r i=true):a0g r=false:=by
 rw [a0g,z8 hi h];simp
@[go_sem] def b5w:ACode:=q' 0 [ax (o' 1 (.box 2 (.t 0))),ab 2 false] (.seq (q' 4 [aG 0 1,ao (.bin .lss (.t 5) (k' 0)),am 6,au (.fa 0 (.t 1)) 7 false,au (.ld false 1 (.t 8)) 7 false,au
 (.bin .gtr (.t 9) (k' 6)) 7 false,ao (.pick (.t 7) (bb true) (.t 10)),am 11,au (.fa 1 (.t 1)) 12 false,au (.ld false 1 (.t 13)) 12 false,au (.len (.t 14)) 12
 false,au (.bin .gtr (.t 15) (k' 300)) 12 false,ao (.pick (.t 12) (bb true) (.t 16))] (.cond (.t 17) (q' 0 [ab 2 false] .ret) .skip)) (.seq (q' 18 [aG 1
 1,aN,aK 0] (.block 0 (.loop (q' 22 [ar 21 20] (.seq (.cond (.t 22) .skip (.exit 0)) (.seq (.block 1 (q' 23 [am 21,aV 3] (.seq (.seq (G' 24 [aG 1 1,am 3,aI
 1,aG 0 27,aN,aG 0 1,ao (.bin .neq (.t 30) (.t 32)),am 33,au (.fa 1 (.t 1)) 34 false,au (.ld false 1 (.t 35)) 34 false,au (.mov (.t 3)) 34 false,au (.ia 1 (.t
 36) (.t 37)) 34 false,au (.ld true 1 (.t 38)) 34 false,au (.call 309 [.t 39]) 34 false,au (.not (.t 40)) 34 false,ao (.pick (.t 34) (bb true) (.t 41))])
 (.cond (.t 42) (q' 0 [ab 2 false] .ret) .skip)) (.seq (G' 43 [am 3,ao (.bin .gtr (.t 43) (k' 0)),am 44,au (.fa 1 (.t 1)) 45 true,au (.ld false 1 (.t 46)) 45
 true,au (.mov (.t 3)) 45 true,au (.bin .sub (.t 48) (k' 1)) 45 true,au (.ia 1 (.t 47) (.t 49)) 45 true,au (.ld true 1 (.t 50)) 45 true,au (.fa 1 (.t 1)) 45
 true,au (.ld false 1 (.t 52)) 45 true,au (.mov (.t 3)) 45 true,au (.ia 1 (.t 53) (.t 54)) 45 true,au (.ld true 1 (.t 55)) 45 true,au (.call 310 [.t 51,.t
 56]) 45 true,au (.bin .neq (.t 57) (.k (.v false [.c (.i .i64 (-1))]))) 45 true,ao (.pick (.t 45) (.t 58) (bb false))]) (.cond (.t 59) (q' 0 [ab 2 false]
 .ret) .skip))))) (g' 60 [aA 21]))))))) (q' 0 [ab 2 true] .ret)))
theorem b8v (r:f8):Z9 Tryz.prog 187 [(true,[.i .i64 r.Arity,.sl false [.sl false [.i .i64 0,.s []] []] (r.Rows.map (d6.cells false false))])] [] (.one (false,[.b (a0g r)])):=by
 refine sx' false false none Tryz.func187 b5w [.t 2] [(309,[],a3q),(310,[],a3Q)] ?_
 intro hb hE
 simp only [go_sem];(repeat' first | apply CJ.mk | intro hc);all_goals try exact om'
 ·rcases hc with (h | h) | h
  ·rw [a0g,decide_eq_false (show ¬ 0≤r.Arity by omega)];rfl
  ·rw [a0g,decide_eq_false (show ¬ r.Arity≤6 by omega)];simp
  ·rw [a0g,decide_eq_false (show ¬ (r.Rows.length:Int)≤300 by omega)];simp
 have hA:=hc
 clear hc
 refine lq' false [1,20] [2] [] (fun i:{i:Nat // i≤r.Rows.length∧a0T i (w7 r)=false}=>[(21,slV (.i .i64 i.1))]) nl' nl' (fun i=>r.Rows.length - i.1) (⟨0,by simp [w8]⟩) ?_
 intro S0 hS0 i
 obtain ⟨i,hi,ha⟩:=i
 have hw:0 < i→IntKind.i64.wrap ((i:Int) - 1)=((i - 1:Nat):Int):=fun h=>by rw [IntWalk.i64_in _ (by omega)];omega
 simp only [go_sem,hS0];(repeat' first | apply CJ.mk | intro hc);all_goals try exact om'
 ·have hq:w7 r i=true:=by
   rw [w7]
   rcases hc with h | h
   ·simp only [bne] at h
    rw [h];rfl
   ·rw [h];simp
  rw [b4J (by omega) hq]
 ·rename_i h1
  have hq:w7 r i=true:=by
   rw [hw (by omega)] at hc
   rw [a5g,h1.2,show ((i - 1:Nat):Int).toNat=i - 1 from rfl,a1V (a3j ha (show i - 1 < i by omega))] at hc
   rw [w7,decide_eq_true (show 0 < i by omega)]
   have h3:=hc.2
   simp only [bne,Bool.and_self,cond_true] at h3
   rw [h3];simp
  rw [b4J (by omega) hq]
 ·rename_i h1
  have hq:w7 r i=false:=by
   have h2:=h1.1
   simp only [bne] at h2
   rw [w7,h2,h1.2]
   by_cases h0:0 < i
   ·rw [hw h0,decide_eq_true (show (0:Int) < i by omega),a5g,h1.2,show ((i - 1:Nat):Int).toNat=i - 1 from rfl,a1V (a3j ha (show i - 1 < i by omega))] at hc
    rw [decide_eq_true h0]
    exact hc
   ·rw [decide_eq_false h0];rfl
  exact nx0 ⟨i+1,by omega,v9 ha hq⟩
 ·obtain rfl:i=r.Rows.length:=by omega
  rw [a0g,ha,decide_eq_true (show 0≤r.Arity by omega),decide_eq_true (show r.Arity≤6 by omega),decide_eq_true (show (r.Rows.length:Int)≤300 by omega)];rfl
noncomputable def a7M:CT:=i3 (fun (x:f8)=>b8v x)
@[go_sem] def c6B:=fun x0 x1=>nm' (fQ' a7M rfl ⟨x0,x1⟩)
@[go_sem] def b5a:ACode:=q' 0 [ax (o' 1 (.box 2 (.t 0))),ab 2 false] (.seq (q' 5 [aG 1 1,aN,aK 0] (.block 0 (.loop (q' 9 [ar 8 7] (.seq (.cond (.t 9) .skip (.exit 0)) (.seq (.block 1
 (q' 10 [am 8,ai 1 6 8,aE 1,ax (w' 4 [.sl [.i .i64 0,.s []]]),av 3 10,aS 1 4 12] (.seq (G' 13 [ae 1 4,ac 97 [13],ao (.not (.t 14)),am 15,au (.fa 0 (.t 4)) 16
 false,au (.ld false 1 (.t 17)) 16 false,au (.len (.t 18)) 16 false,au (.fa 0 (.t 1)) 16 false,au (.ld false 1 (.t 20)) 16 false,au (.bin .neq (.t 19) (.t 21))
 16 false,ao (.pick (.t 16) (bb true) (.t 22)),am 23,au (.mov (.t 3)) 24 false,au (.bin .gtr (.t 25) (k' 0)) 24 false,au (.mov (.t 26)) 24 false,au (.fa 1 (.t
 1)) 27 true,au (.ld false 1 (.t 28)) 27 true,au (.mov (.t 3)) 27 true,au (.bin .sub (.t 30) (k' 1)) 27 true,au (.ia 1 (.t 29) (.t 31)) 27 true,au (.ld true 1
 (.t 32)) 27 true,au (.ld true 1 (.t 4)) 27 true,au (.call 199 [.t 33,.t 34]) 27 true,au (.bin .geq (.t 35) (k' 0)) 27 true,au (.pick (.t 27) (.t 36) (bb
 false)) 24 false,ao (.pick (.t 24) (bb true) (.t 37))]) (.cond (.t 38) (q' 0 [ab 2 false] .ret) .skip)))) (g' 39 [aA 8]))))))) (q' 40 [aG 0 1,ao (.call 200
 [.t 41,.k (.v false [.c (.i .i64 6)])]),am 42,au (.fa 1 (.t 1)) 43 true,au (.ld false 1 (.t 44)) 43 true,au (.len (.t 45)) 43 true,au (.bin .leq (.t 46) (k'
 300)) 43 true,ao (.pick (.t 43) (.t 47) (bb false)),aV 2] .ret))
theorem b7Z (r:f8):Z9 Tryz.prog 96 [(true,[.i .i64 r.Arity,.sl false [.sl false [.i .i64 0,.s []] []] (r.Rows.map (d6.cells false false))])] [] (.one (false,[.b (a0g r)])):=by
 refine sx' false false none Tryz.func96 b5a [.t 2] [(97,[],a7w),(199,[],a3l),(200,[],a2e)] ?_
 intro hb hE
 simp only [go_sem];(repeat' first | apply CJ.mk | intro hc);all_goals try exact om'
 refine lq' false [1,6,7] [2] [] (fun i:{i:Nat // i≤r.Rows.length∧a0T i (w7 r)=false}=>[(8,slV (.i .i64 i.1))]) nl' nl' (fun i=>r.Rows.length - i.1) (⟨0,by simp [w8]⟩) ?_
 intro S0 hS0 i
 obtain ⟨i,hi,ha⟩:=i
 have hR:=c5L ha
 have hw:0 < i→IntKind.i64.wrap ((i:Int) - 1)=((i - 1:Nat):Int):=fun h=>by rw [IntWalk.i64_in _ (by omega)];omega
 simp only [go_sem,hS0];(repeat' first | apply CJ.mk | intro hc);all_goals try exact om'
 ·have hq:w7 r i=true:=by
   rw [← hR]
   rcases hc with (h | h) | ⟨h0,h⟩
   ·rw [h];rfl
   ·simp only [bne] at h
    rw [h];simp
   ·rw [hw (by omega)] at h
    have h':0≤a0w (r.Rows.getD (i - 1) default).V (r.Rows.getD i default).V:=h
    rw [decide_eq_true (show 0 < i by omega),decide_eq_true h'];simp
  rw [b4J (by omega) hq]
 ·have hq:w7 r i=false:=by
   rw [← hR]
   obtain ⟨⟨h1,h2⟩,h3⟩:=hc
   simp only [bne] at h2
   rw [h1,h2]
   by_cases h0:0 < i
   ·rw [hw h0,decide_eq_true (show (0:Int) < i by omega)] at h3
    rw [decide_eq_true h0]
    exact h3
   ·rw [decide_eq_false h0];rfl
  exact nx0 ⟨i+1,by omega,v9 ha hq⟩
 ·obtain rfl:i=r.Rows.length:=by omega
  rw [a0g,ha];simp
noncomputable def a7v:CT:=i3 (fun (x:f8)=>b7Z x)
@[go_sem] def c6f:=fun x0 x1=>nm' (fQ' a7v rfl ⟨x0,x1⟩)
theorem b7g {s:d8} {i:Nat} (hi:i < s.Rels.length) (h:a0c s.Rels i=true):s9 s=false:=by
 rw [s9,z8 hi h];simp
@[go_sem] def b1b:ACode:=q' 0 [ax (o' 1 (.box 1 (.t 0))),ab 2 false] (.seq (q' 4 [aG 0 1,aN,ao (.bin .gtr (.t 6) (k' 24))] (.cond (.t 7) (q' 0 [ab 2 false] .ret) .skip)) (.seq (q' 8 [aG
 0 1,aN,aK 0] (.block 0 (.loop (q' 12 [ar 11 10] (.seq (.cond (.t 12) .skip (.exit 0)) (.seq (.block 1 (q' 13 [am 11,aV 3] (.seq (G' 14 [aG 0 1,am 3,aI 3,aG 0
 17,ac 186 [19],ao (.not (.t 20)),am 21,au (.fa 0 (.t 1)) 22 false,au (.ld false 1 (.t 23)) 22 false,au (.mov (.t 3)) 22 false,au (.ia 3 (.t 24) (.t 25)) 22
 false,au (.fa 1 (.t 26)) 22 false,au (.ld true 2 (.t 27)) 22 false,au (.call 187 [.t 28]) 22 false,au (.not (.t 29)) 22 false,ao (.pick (.t 22) (bb true) (.t
 30)),am 31,au (.mov (.t 3)) 32 false,au (.bin .gtr (.t 33) (k' 0)) 32 false,au (.mov (.t 34)) 32 false,au (.fa 0 (.t 1)) 35 true,au (.ld false 1 (.t 36)) 35
 true,au (.mov (.t 3)) 35 true,au (.bin .sub (.t 38) (k' 1)) 35 true,au (.ia 3 (.t 37) (.t 39)) 35 true,au (.fa 0 (.t 40)) 35 true,au (.ld false 1 (.t 41)) 35
 true,au (.fa 0 (.t 1)) 35 true,au (.ld false 1 (.t 43)) 35 true,au (.mov (.t 3)) 35 true,au (.ia 3 (.t 44) (.t 45)) 35 true,au (.fa 0 (.t 46)) 35 true,au (.ld
 false 1 (.t 47)) 35 true,au (.bin .geq (.t 42) (.t 48)) 35 true,au (.pick (.t 35) (.t 49) (bb false)) 32 false,ao (.pick (.t 32) (bb true) (.t 50))]) (.cond
 (.t 51) (q' 0 [ab 2 false] .ret) .skip)))) (g' 52 [aA 11]))))))) (q' 0 [ab 2 true] .ret)))
theorem b4q (s:d8):Z9 Tryz.prog 87 [(true,[.sl false [.s [],.i .i64 0,.sl false [.sl false [.i .i64 0,.s []] []] []] (s.Rels.map (c9.cells false false))])] [] (.one (false,[.b (s9 s)])):=by
 refine sx' false false none Tryz.func87 b1b [.t 2] [(186,[],a1e),(187,[],a7M)] ?_
 intro hb hE
 simp only [go_sem];(repeat' first | apply CJ.mk | intro hc);all_goals try exact om'
 ·rw [s9,decide_eq_false (by omega)];rfl
 have hA:=hc
 clear hc
 refine lq' false [1,10] [2] [] (fun i:{i:Nat // i≤s.Rels.length∧a0T i (a0c s.Rels)=false}=>[(11,slV (.i .i64 i.1))]) nl' nl' (fun i=>s.Rels.length - i.1) (⟨0,by simp [w8]⟩) ?_
 intro S0 hS0 i
 obtain ⟨i,hi,ha⟩:=i
 have hw:0 < i→IntKind.i64.wrap ((i:Int) - 1)=((i - 1:Nat):Int):=fun h=>by rw [IntWalk.i64_in _ (by omega)];omega
 simp only [go_sem,hS0];(repeat' first | apply CJ.mk | intro hc);all_goals try exact om'
 ·have hq:a0c s.Rels i=true:=by
   rw [a0c]
   rcases hc with (h | h) | ⟨h0,h⟩
   ·rw [h];rfl
   ·rw [h];simp
   ·rw [hw (by omega)] at h
    have h':Op.bytesLess (s.Rels.getD (i - 1) default).Name (s.Rels.getD i default).Name=false:=h
    rw [decide_eq_true (show 0 < i by omega),h'];simp
  rw [b7g (by omega) hq]
 ·have hq:a0c s.Rels i=false:=by
   obtain ⟨⟨h1,h2⟩,h3⟩:=hc
   rw [a0c,h1,h2]
   by_cases h0:0 < i
   ·rw [hw h0,decide_eq_true (show (0:Int) < i by omega)] at h3
    rw [decide_eq_true h0]
    exact h3
   ·rw [decide_eq_false h0];rfl
  exact nx0 ⟨i+1,by omega,v9 ha hq⟩
 ·obtain rfl:i=s.Rels.length:=by omega
  rw [s9,ha,decide_eq_true (show (s.Rels.length:Int)≤24 by omega)];rfl
noncomputable def a1P:CT:=i3 (fun (x:d8)=>b4q x)
@[go_sem] def c3t:=fun x0=>nm' (fQ' a1P rfl ⟨x0⟩)
@[go_sem] def b0q:ACode:=q' 0 [ax (o' 1 (.box 1 (.t 0))),ab 2 false] (.seq (q' 5 [aG 0 1,aN,aK 0] (.block 0 (.loop (q' 9 [ar 8 7] (.seq (.cond (.t 9) .skip (.exit 0)) (.seq (.block 1
 (q' 10 [am 8,ai 3 6 8,aE 3,ax (w' 4 [.s,.i .i64,.sl [.sl false [.i .i64 0,.s []] []]]),av 3 10,aS 3 4 12] (.seq (G' 13 [aG 0 4,ac 159 [14],ao (.not (.t
 15)),am 16,au (.fa 1 (.t 4)) 17 false,au (.ld true 2 (.t 18)) 17 false,au (.call 96 [.t 19]) 17 false,au (.not (.t 20)) 17 false,ao (.pick (.t 17) (bb true)
 (.t 21)),am 22,au (.mov (.t 3)) 23 false,au (.bin .gtr (.t 24) (k' 0)) 23 false,au (.mov (.t 25)) 23 false,au (.fa 0 (.t 1)) 26 true,au (.ld false 1 (.t 27))
 26 true,au (.mov (.t 3)) 26 true,au (.bin .sub (.t 29) (k' 1)) 26 true,au (.ia 3 (.t 28) (.t 30)) 26 true,au (.fa 0 (.t 31)) 26 true,au (.ld false 1 (.t 32))
 26 true,au (.fa 0 (.t 4)) 26 true,au (.ld false 1 (.t 34)) 26 true,au (.bin .geq (.t 33) (.t 35)) 26 true,au (.pick (.t 26) (.t 36) (bb false)) 23 false,ao
 (.pick (.t 23) (bb true) (.t 37))]) (.cond (.t 38) (q' 0 [ab 2 false] .ret) .skip)))) (g' 39 [aA 8]))))))) (q' 40 [aG 0 1,aN,ao (.bin .leq (.t 42) (k' 24)),aV
 2] .ret))
theorem b3F (s:d8):Z9 Tryz.prog 70 [(true,[.sl false [.s [],.i .i64 0,.sl false [.sl false [.i .i64 0,.s []] []] []] (s.Rels.map (c9.cells false false))])] [] (.one (false,[.b (s9 s)])):=by
 refine sx' false false none Tryz.func70 b0q [.t 2] [(159,[],a1d),(96,[],a7v)] ?_
 intro hb hE
 simp only [go_sem];(repeat' first | apply CJ.mk | intro hc);all_goals try exact om'
 refine lq' false [1,6,7] [2] [] (fun i:{i:Nat // i≤s.Rels.length∧a0T i (a0c s.Rels)=false}=>[(8,slV (.i .i64 i.1))]) nl' nl' (fun i=>s.Rels.length - i.1) (⟨0,by simp [w8]⟩) ?_
 intro S0 hS0 i
 obtain ⟨i,hi,ha⟩:=i
 have hw:0 < i→IntKind.i64.wrap ((i:Int) - 1)=((i - 1:Nat):Int):=fun h=>by rw [IntWalk.i64_in _ (by omega)];omega
 simp only [go_sem,hS0];(repeat' first | apply CJ.mk | intro hc);all_goals try exact om'
 ·have hq:a0c s.Rels i=true:=by
   rw [a0c]
   rcases hc with (h | h) | ⟨h0,h⟩
   ·rw [h];rfl
   ·rw [h];simp
   ·rw [hw (by omega)] at h
    have h':Op.bytesLess (s.Rels.getD (i - 1) default).Name (s.Rels.getD i default).Name=false:=h
    rw [decide_eq_true (show 0 < i by omega),h'];simp
  rw [b7g (by omega) hq]
 ·have hq:a0c s.Rels i=false:=by
   obtain ⟨⟨h1,h2⟩,h3⟩:=hc
   rw [a0c,h1,h2]
   by_cases h0:0 < i
   ·rw [hw h0,decide_eq_true (show (0:Int) < i by omega)] at h3
    rw [decide_eq_true h0]
    exact h3
   ·rw [decide_eq_false h0];rfl
  exact nx0 ⟨i+1,by omega,v9 ha hq⟩
 ·obtain rfl:i=s.Rels.length:=by omega
  rw [s9,ha,Bool.not_false,Bool.and_true]
noncomputable def a1H:CT:=i3 (fun (x:d8)=>b3F x)
@[go_sem] def c2I:=fun x0=>nm' (fQ' a1H rfl ⟨x0⟩)
theorem c5M {r:f8} (h:a0g r=true):r.Rows.length≤300:=by
 simp only [a0g,Bool.and_eq_true,decide_eq_true_eq] at h
 omega
theorem c0u {s:d8} (h:s9 s=true):∀ x∈s.Rels,a0g x.Rel=true:=by
 intro x hx
 obtain ⟨i,hi,rfl⟩:=List.getElem_of_mem hx
 simp only [s9,Bool.and_eq_true,Bool.not_eq_true'] at h
 have:=a3j h.2 hi
 simp only [a0c,Bool.or_eq_false_iff,Bool.not_eq_false',i6 default hi] at this
 exact this.1.2
def w6 (s:d8) (n:List UInt8):f8×Bool:=if 0≤a0H (fun x:c9=>x.Name==n) s.Rels then ((s.Rels.getD (a0H (fun x:c9=>x.Name==n) s.Rels).toNat default).Rel,true) else (⟨0,[]⟩,false)
theorem b4I {s:d8} {n:List UInt8} {i:Nat} (hi:i < s.Rels.length) (ha:(s.Rels.take i).any (fun x=>x.Name==n)=false) (h:((s.Rels.getD i default).Name==n)=true):w6 s n=((s.Rels.getD i default).Rel,true):=by
 rw [w6,o0 (p:=fun x:c9=>x.Name==n) default hi ha h,if_pos (by omega)];rfl
theorem b4H {s:d8} {n:List UInt8} (ha:s.Rels.any (fun x=>x.Name==n)=false):w6 s n=(⟨0,[]⟩,false):=by
 rw [w6,n9 ha,if_neg (by decide)]
@[go_sem] def b2P:ACode:=q' 2 [ao (.box 1 (.t 0)),ax (w' 4 [.i .i64,.sl [.sl false [.i .i64 0,.s []] []]]),ab 5 false] (.seq (q' 7 [aG 0 2,aN,aK 0] (.block 0 (.loop (q' 11 [ar 10 9]
 (.seq (.cond (.t 11) .skip (.exit 0)) (.seq (.block 1 (q' 12 [am 10,aV 6] (q' 13 [aG 0 2,am 6,aI 3,aG 0 16,am 1,ao (.bin .eql (.t 18) (.t 19))] (.cond (.t 20)
 (q' 21 [aG 0 2,am 6,aI 3,aF 1,aE 2,aS 2 4 26,ab 5 true] .ret) .skip)))) (g' 27 [aA 10]))))))) (q' 28 [ao (.bld [.i .i64,.sl [.sl false [.i .i64 0,.s []]
 []]] []),aS 2 4 28,ab 5 false] .ret))
theorem b6v (s:d8) (n:List UInt8):Z9 Tryz.prog 188 [(true,[.sl false [.s [],.i .i64 0,.sl false [.sl false [.i .i64 0,.s []] []] []] (s.Rels.map (c9.cells false false))]),(false,[.s n])] [] (.tup [(true,[.i .i64 (((w6 s n).1).Arity),.sl false [.sl false [.i .i64 0,.s []] []] ((((w6 s n).1).Rows).map (d6.cells false false))]),(false,[.b ((w6 s n).2)])]):=by
 refine sx' false true none Tryz.func188 b2P [.c 4 true 2,.t 5] [] ?_
 intro hb hE
 simp only [go_sem];(repeat' first | apply CJ.mk | intro hc);all_goals try exact om'
 refine lq' false [1,2,4,9] [4] [] (fun i:{i:Nat // i≤s.Rels.length∧(s.Rels.take i).any (fun x=>x.Name==n)=false}=>[(10,slV (.i .i64 i.1))]) (fun i=>[(8,[.c (.i .i64 0),.nl [.sl false [.i .i64 0,.s []] []]])]) nl' (fun i=>s.Rels.length - i.1) (⟨0,by simp⟩) ?_
 intro S0 hS0 i
 obtain ⟨i,hi,ha⟩:=i
 simp only [go_sem,hS0];(repeat' first | apply CJ.mk | intro hc);all_goals try exact om'
 ·rw [b4I (by omega) ha hc];exact ⟨⟨rfl,rfl⟩,rfl⟩
 ·exact nx0 ⟨i+1,by omega,j5 (p:=fun x:c9=>x.Name==n) default (by omega) ha hc⟩
 ·rw [f9 (by omega)] at ha
  rw [b4H ha];exact ⟨⟨rfl,rfl⟩,rfl⟩
noncomputable def a6e:CT:=i3 (fun (x:d8×(List UInt8))=>b6v x.1 x.2)
@[go_sem] def c5n:=fun x0 n=>nm' (fQ' a6e rfl (⟨x0⟩,n))
@[go_sem] def b5h:ACode:=q' 2 [ao (.box 1 (.t 0)),ax (w' 4 [.i .i64,.sl [.sl false [.i .i64 0,.s []] []]]),ab 5 false] (.seq (q' 8 [aG 0 2,aN,aK 0] (.block 0 (.loop (q' 12 [ar 11 10]
 (.seq (.cond (.t 12) .skip (.exit 0)) (.seq (.block 1 (q' 13 [ai 3 9 11,aE 3,ax (w' 7 [.s,.i .i64,.sl [.sl false [.i .i64 0,.s []] []]]),aS 3 7 14] (q' 15
 [aG 0 7,am 1,ao (.bin .eql (.t 16) (.t 17))] (.cond (.t 18) (q' 19 [af 1 7,aE 2,aS 2 4 20,ab 5 true] .ret) .skip)))) (g' 21 [aA 11]))))))) (q' 22 [ao (.bld
 [.i .i64,.sl [.sl false [.i .i64 0,.s []] []]] []),aS 2 4 22,ab 5 false] .ret))
theorem b8g (s:d8) (n:List UInt8):Z9 Tryz.prog 94 [(true,[.sl false [.s [],.i .i64 0,.sl false [.sl false [.i .i64 0,.s []] []] []] (s.Rels.map (c9.cells false false))]),(false,[.s n])] [] (.tup [(true,[.i .i64 (((w6 s n).1).Arity),.sl false [.sl false [.i .i64 0,.s []] []] ((((w6 s n).1).Rows).map (d6.cells false false))]),(false,[.b ((w6 s n).2)])]):=by
 refine sx' false true none Tryz.func94 b5h [.c 4 true 2,.t 5] [] ?_
 intro hb hE
 simp only [go_sem];(repeat' first | apply CJ.mk | intro hc);all_goals try exact om'
 refine lq' false [1,4,9,10] [] [] (fun i:{i:Nat // i≤s.Rels.length∧(s.Rels.take i).any (fun x=>x.Name==n)=false}=>[(11,slV (.i .i64 i.1))]) (fun i=>[(8,[.c (.i .i64 0),.nl [.sl false [.i .i64 0,.s []] []]])]) nl' (fun i=>s.Rels.length - i.1) (⟨0,by simp⟩) ?_
 intro S0 hS0 i
 obtain ⟨i,hi,ha⟩:=i
 simp only [go_sem,hS0];(repeat' first | apply CJ.mk | intro hc);all_goals try exact om'
 ·rw [b4I (by omega) ha hc];exact ⟨⟨rfl,rfl⟩,rfl⟩
 ·exact nx0 ⟨i+1,by omega,j5 (p:=fun x:c9=>x.Name==n) default (by omega) ha hc⟩
 ·rw [f9 (by omega)] at ha
  rw [b4H ha];exact ⟨⟨rfl,rfl⟩,rfl⟩
noncomputable def a3m:CT:=i3 (fun (x:d8×(List UInt8))=>b8g x.1 x.2)
@[go_sem] def c6m:=fun x0 n=>nm' (fQ' a3m rfl (⟨x0⟩,n))
def vNe (a b:List c7) (i:Nat):Bool:=!vEq (a.getD i default) (b.getD i default)
def a0M (a b:List c7):Bool:=decide (a.length=b.length)&&!a0T a.length (vNe a b)
theorem c8d {a b:c7} (h:vEq a b=true):a=b:=by
 obtain ⟨n,s⟩:=a
 obtain ⟨m,r⟩:=b
 simp only [vEq,Bool.and_eq_true,beq_iff_eq] at h
 rw [h.1,h.2]
theorem vEq_rfl (a:c7):vEq a a=true:=by simp [vEq]
theorem b0k (a b:List c7):a0M a b=decide (a=b):=by
 rw [Bool.eq_iff_iff,decide_eq_true_eq]
 constructor
 ·intro h
  simp only [a0M,Bool.and_eq_true,decide_eq_true_eq,Bool.not_eq_true'] at h
  refine List.ext_getElem h.1 fun i h1 h2=>?_
  have:=a3j h.2 h1
  simp only [vNe,Bool.not_eq_false',i6 default h1,i6 default h2] at this
  exact c8d this
 ·rintro rfl
  rw [a0M,decide_eq_true rfl,Bool.true_and,Bool.not_eq_true']
  cases h:a0T a.length (vNe a a) with
  | false=>rfl
  | true=>
    simp only [a0T,Bool.not_eq_true'] at h
    rw [c7a.2 fun i _=>by simp [vNe,vEq_rfl]] at h
    cases h
@[go_sem] def a6B:ACode:=q' 2 [ao (.box 1 (.t 0)),ao (.box 1 (.t 1)),ao (.mov (bb false))] (.seq (q' 6 [aG 0 2,aN,aG 0 3,aN,ao (.bin .neq (.t 8) (.t 11))] (.cond (.t 12) (q' 0 [ab 4
 false] .ret) .skip)) (.seq (q' 13 [aG 0 2,aN,aK 0] (.block 0 (.loop (q' 17 [ar 16 15] (.seq (.cond (.t 17) .skip (.exit 0)) (.seq (.block 1 (q' 18 [am 16,aV
 5] (.seq (G' 19 [aG 0 2,am 5,aI 2,aE 2,aG 0 3,am 5,aI 2,aE 2,ao (.eqs true [.i .i64,.s] (.t 23) (.t 28))]) (.cond (.t 29) (q' 0 [ab 4 false] .ret) .skip))))
 (g' 30 [aA 16]))))))) (q' 0 [ab 4 true] .ret)))
theorem a8g (a:d6) (b:d6):Z9 Tryz.prog 212 [(true,[.sl false [.i .i64 0,.s []] (a.V.map c7.cells)]),(true,[.sl false [.i .i64 0,.s []] (b.V.map c7.cells)])] [] (.one (false,[.b (decide (a.V=b.V))])):=by
 refine sx' false false none Tryz.func212 a6B [.t 4] [] ?_
 intro hb hE
 rw [← b0k]
 simp only [go_sem];(repeat' first | apply CJ.mk | intro hc);all_goals try exact om'
 ·rw [a0M,decide_eq_false (fun h=>by simp [h] at hc)];rfl
 have hl:a.V.length=b.V.length:=by simpa [Int.ofNat_inj] using hc
 clear hc
 refine lq' false [2,3,15] [4,6] [] (fun i:{i:Nat // i≤a.V.length∧a0T i (vNe a.V b.V)=false}=>[(16,slV (.i .i64 i.1))]) nl' nl' (fun i=>a.V.length - i.1) (⟨0,by simp [w8]⟩) ?_
 intro S0 hS0 i
 obtain ⟨i,hi,ha⟩:=i
 simp only [go_sem,hS0];(repeat' first | apply CJ.mk | intro hc);all_goals try exact om'
 ·rw [a0M,z8 (i:=i) (by omega) (show vNe a.V b.V i=true by rw [vNe,vEq,hc];rfl)];simp
 ·exact nx0 ⟨i+1,by omega,v9 ha (show vNe a.V b.V i=false by rw [vNe,vEq,hc.1,hc.2];rfl)⟩
 ·obtain rfl:i=a.V.length:=by omega
  rw [a0M,ha,decide_eq_true hl];rfl
noncomputable def y3:CT:=i3 (fun (x:d6×d6)=>a8g x.1 x.2)
@[go_sem] def b9s:=fun x0 x1=>nm' (fQ' y3 rfl (⟨x0⟩,⟨x1⟩))
@[go_sem] def c4t:ACode:=q' 0 [ab 4 false] (.seq (q' 6 [am 0,aN,am 1,aN,ao (.bin .neq (.t 7) (.t 9))] (.cond (.t 10) (q' 0 [ab 4 false] .ret) .skip)) (.seq (q' 11 [am 0,aN,aK 0] (.block
 0 (.loop (q' 14 [ar 13 12] (.seq (.cond (.t 14) .skip (.exit 0)) (.seq (.block 1 (q' 15 [am 13,aV 5] (.seq (G' 16 [aM [0,5],aI 2,aE 2,aM [1,5],aI 2,aE 2,ao
 (.eqs true [.i .i64,.s] (.t 19) (.t 23))]) (.cond (.t 24) (q' 0 [ab 4 false] .ret) .skip)))) (g' 25 [aA 13]))))))) (q' 0 [ab 4 true] .ret)))
theorem c7K (a:List c7) (b:List c7):Z9 Tryz.prog 326 [(false,[.sl false [.i .i64 0,.s []] (a.map c7.cells)]),(false,[.sl false [.i .i64 0,.s []] (b.map c7.cells)])] [] (.one (false,[.b (decide (a=b))])):=by
 refine sx' false false none Tryz.func326 c4t [.t 4] [] ?_
 intro hb hE
 rw [← b0k]
 simp only [go_sem];(repeat' first | apply CJ.mk | intro hc);all_goals try exact om'
 ·rw [a0M,decide_eq_false (fun h=>by simp [h] at hc)];rfl
 have hl:a.length=b.length:=by simpa [Int.ofNat_inj] using hc
 clear hc
 refine lq' false [0,1,12] [] [] (fun i:{i:Nat // i≤a.length∧a0T i (vNe a b)=false}=>[(13,slV (.i .i64 i.1))]) nl' nl' (fun i=>a.length - i.1) (⟨0,by simp [w8]⟩) ?_
 intro S0 hS0 i
 obtain ⟨i,hi,ha⟩:=i
 simp only [go_sem,hS0];(repeat' first | apply CJ.mk | intro hc);all_goals try exact om'
 ·rw [a0M,z8 (i:=i) (by omega) (show vNe a b i=true by rw [vNe,vEq,hc];rfl)];simp
 ·exact nx0 ⟨i+1,by omega,v9 ha (show vNe a b i=false by rw [vNe,vEq,hc.1,hc.2];rfl)⟩
 ·obtain rfl:i=a.length:=by omega
  rw [a0M,ha,decide_eq_true hl];rfl
noncomputable def b9g:CT:=i3 (fun (x:(List c7)×(List c7))=>c7K x.1 x.2)
@[go_sem] def c_eqVals_eq:=fun a b=>nm' (fQ' b9g rfl (a,b))
@[go_sem] def b0z:ACode:=q' 2 [ao (.box 1 (.t 0)),ao (.box 1 (.t 1)),ao (.mov (bb false))] (q' 5 [aG 0 2,aG 0 3,ac 326 [6,8],aV 4] .ret)
theorem b3O (a:d6) (b:d6):Z9 Tryz.prog 224 [(true,[.sl false [.i .i64 0,.s []] (a.V.map c7.cells)]),(true,[.sl false [.i .i64 0,.s []] (b.V.map c7.cells)])] [] (.one (false,[.b (decide (a.V=b.V))])):=by
 refine sx' false false none Tryz.func224 b0z [.t 4] [(326,[],b9g)] ?_
 intro hb hE
 simp only [go_sem];(repeat' first | apply CJ.mk | intro hc);all_goals try exact om'
noncomputable def a1N:CT:=i3 (fun (x:d6×d6)=>b3O x.1 x.2)
@[go_sem] def c2R:=fun x0 x1=>nm' (fQ' a1N rfl (⟨x0⟩,⟨x1⟩))
def z5 (l:List d6) (r:d6):Bool:=l.any fun x=>decide (x.V=r.V)
@[go_sem] def b2O:ACode:=q' 0 [ax (o' 3 (.box 1 (.t 1))),ab 4 false] (.seq (q' 6 [am 0,aN,aK 0] (.block 0 (.loop (q' 9 [ar 8 7] (.seq (.cond (.t 9) .skip (.exit 0)) (.seq (.block 1 (q'
 10 [am 8,aV 5] (.seq (G' 11 [aM [0,5],aI 1,aE 1,ae 1 3,ac 212 [14,15]]) (.cond (.t 16) (q' 0 [ab 4 true] .ret) .skip)))) (g' 17 [aA 8]))))))) (q' 0 [ab 4
 false] .ret))
theorem b6u (l:List d6) (r:d6):Z9 Tryz.prog 260 [(false,[.sl false [.sl false [.i .i64 0,.s []] []] (l.map (d6.cells false false))]),(true,[.sl false [.i .i64 0,.s []] (r.V.map c7.cells)])] [] (.one (false,[.b (z5 l r)])):=by
 refine sx' false false none Tryz.func260 b2O [.t 4] [(212,[],y3)] ?_
 intro hb hE
 simp only [go_sem];(repeat' first | apply CJ.mk | intro hc);all_goals try exact om'
 refine lq' false [0,3,7] [6] [] (fun i:{i:Nat // i≤l.length∧(l.take i).any (fun x=>decide (x.V=r.V))=false}=>[(8,slV (.i .i64 i.1))]) nl' nl' (fun i=>l.length - i.1) (⟨0,by simp⟩) ?_
 intro S0 hS0 i
 obtain ⟨i,hi,ha⟩:=i
 simp only [go_sem,hS0];(repeat' first | apply CJ.mk | intro hc);all_goals try exact om'
 ·rw [z5,any_true (p:=fun x:d6=>decide (x.V=r.V)) (d:=default) (i:=i) (by omega) (decide_eq_true hc)]
 ·exact nx0 ⟨i+1,by omega,j5 (p:=fun x:d6=>decide (x.V=r.V)) default (by omega) ha (decide_eq_false hc)⟩
 ·rw [f9 (by omega)] at ha
  rw [z5,ha]
noncomputable def a6d:CT:=i3 (fun (x:(List d6)×d6)=>b6u x.1 x.2)
@[go_sem] def c5m:=fun l x0=>nm' (fQ' a6d rfl (l,⟨x0⟩))
@[go_sem] def b5A:ACode:=q' 3 [ao (.box 1 (.t 0)),ax (o' 5 (.box 1 (.t 2))),ab 6 false] (q' 10 [ae 1 3,am 1,ac 188 [10,11],aV 9,ao (.ext (.t 9) 0),ao (.ext (.t 9) 1),ax (w' 7 [.i .i64,
 .sl [.sl false [.i .i64 0,.s []] []]]),aS 2 7 13,aV 8] (q' 15 [aG 1 7,ae 1 5,ac 260 [16,17],aV 6] .ret))
theorem b8z (s:d8) (n:List UInt8) (r:d6):Z9 Tryz.prog 215 [(true,[.sl false [.s [],.i .i64 0,.sl false [.sl false [.i .i64 0,.s []] []] []] (s.Rels.map (c9.cells false false))]),(false,[.s n]),(true,[.sl false [.i .i64 0,.s []] (r.V.map c7.cells)])] [] (.one (false,[.b (z5 (w6 s n).1.Rows r)])):=by
 refine sx' false false none Tryz.func215 b5A [.t 6] [(188,[],a6e),(260,[],a6d)] ?_
 intro hb hE
 simp only [go_sem];(repeat' first | apply CJ.mk | intro hc);all_goals try exact om'
noncomputable def a7O:CT:=i3 (fun (x:d8×(List UInt8)×d6)=>b8z x.1 x.2.1 x.2.2)
@[go_sem] def c6F:=fun x0 n x1=>nm' (fQ' a7O rfl (⟨x0⟩,n,⟨x1⟩))
def b0d (l:List d9) (n:List UInt8) (r:d6):Bool:=l.any fun x=>x.Name==n&&decide (x.Row.V=r.V)
@[go_sem] def b1k:ACode:=q' 0 [ax (o' 5 (.box 1 (.t 2))),ab 6 false] (.seq (q' 8 [am 0,aN,aK 0] (.block 0 (.loop (q' 11 [ar 10 9] (.seq (.cond (.t 11) .skip (.exit 0)) (.seq (.block 1
 (q' 12 [am 10,aV 7] (.seq (G' 13 [aM [0,7],aI 4,aG 0 15,am 1,ao (.bin .eql (.t 17) (.t 18)),am 19,au (.mov (.t 0)) 20 true,au (.mov (.t 7)) 20 true,au (.ia 4
 (.t 21) (.t 22)) 20 true,au (.fa 1 (.t 23)) 20 true,au (.ld true 1 (.t 24)) 20 true,au (.ld true 1 (.t 5)) 20 true,au (.call 212 [.t 25,.t 26]) 20 true,ao
 (.pick (.t 20) (.t 27) (bb false))]) (.cond (.t 28) (q' 0 [ab 6 true] .ret) .skip)))) (g' 29 [aA 10]))))))) (q' 0 [ab 6 false] .ret))
theorem b4y (l:List d9) (n:List UInt8) (r:d6):Z9 Tryz.prog 216 [(false,[.sl false [.s [],.sl false [.i .i64 0,.s []] [],.i .i64 0,.sl false [.s [],.i .i64 0,.s []] []] (l.map (d9.cells false false))]),(false,[.s n]),(true,[.sl false [.i .i64 0,.s []] (r.V.map c7.cells)])] [] (.one (false,[.b (b0d l n r)])):=by
 refine sx' false false none Tryz.func216 b1k [.t 6] [(212,[],y3)] ?_
 intro hb hE
 simp only [go_sem];(repeat' first | apply CJ.mk | intro hc);all_goals try exact om'
 refine lq' false [0,1,5,9] [10] [] (fun i:{i:Nat // i≤l.length∧(l.take i).any (fun x=>x.Name==n&&decide (x.Row.V=r.V))=false}=>[(10,slV (.i .i64 i.1))]) nl' nl' (fun i=>l.length - i.1) (⟨0,by simp⟩) ?_
 intro S0 hS0 i
 obtain ⟨i,hi,ha⟩:=i
 simp only [go_sem,hS0];(repeat' first | apply CJ.mk | intro hc);all_goals try exact om'
 ·rw [b0d,any_true (d:=default) (i:=i) (by omega) (by rw [hc.1,decide_eq_true hc.2];rfl)]
 ·exact nx0 ⟨i+1,by omega,j5 (p:=fun x:d9=>x.Name==n&&decide (x.Row.V=r.V)) default (by omega) ha hc⟩
 ·rw [f9 (by omega)] at ha
  rw [b0d,ha]
noncomputable def a4Z:CT:=i3 (fun (x:(List d9)×(List UInt8)×d6)=>b4y x.1 x.2.1 x.2.2)
@[go_sem] def c3B:=fun l n x0=>nm' (fQ' a4Z rfl (l,n,⟨x0⟩))
@[go_sem] def a8K:ACode:=q' 0 [ax (o' 3 (.box 4 (.t 0))),ab 4 false] (q' 5 [aG 0 3,al 1,ao (.bin .eql (.t 6) (.t 7)),am 8,au (.fa 1 (.t 3)) 9 true,au (.ld true 1 (.t 10)) 9 true,au (.ld
 true 1 (.t 2)) 9 true,au (.call 224 [.t 11,.t 12]) 9 true,ao (.pick (.t 9) (.t 13) (bb false)),aV 4] .ret)
theorem b1t (x:d9) (n:List UInt8) (r:d6):Z9 Tryz.prog 328 [(true,[.s x.Name,.sl false [.i .i64 0,.s []] (x.Row.V.map c7.cells),.i .i64 x.Rule,.sl false [.s [],.i .i64 0,.s []] (x.Env.Binds.map d4.cells)]),(false,[.p [.s n]]),(false,[.p [.sl false [.i .i64 0,.s []] (r.V.map c7.cells)]])] [] (.one (false,[.b (x.Name==n&&decide (x.Row.V=r.V))])):=by
 refine sx' false false none Tryz.func328 a8K [.t 4] [(224,[],a1N)] ?_
 intro hb hE
 simp only [go_sem];(repeat' first | apply CJ.mk | intro hc);all_goals try exact om'
noncomputable def a3F:CT:=i3 (fun (x:d9×(List UInt8)×d6)=>b1t x.1 x.2.1 x.2.2)
@[go_sem] def c1E:=fun x0 x1 x2 x3 n x4=>nm' (fQ' a3F rfl (⟨x0,⟨x1⟩,x2,⟨x3⟩⟩,n,⟨x4⟩))
@[go_sem] def c1u:ACode:=q' 4 [aK 0] (.seq (q' 6 [am 0,aN,aK 0] (.block 0 (.loop (q' 9 [ar 8 7] (.seq (.cond (.t 9) .skip (.exit 0)) (.seq (.block 1 (q' 10 [am 8,aV 5] (q' 11 [aM
 [1,0,5],aI 4,aE 4,ao (.callv (.t 11) [.t 15])] (.cond (.t 16) (q' 17 [am 5,aV 4] .ret) .skip)))) (g' 18 [aA 8]))))))) (q' 4 [ao (.mov (.k (.v false [.c (.i
 .i64 (-1))])))] .ret))
theorem b9X (l:List d9) (n:List UInt8) (r:d6):Z9 Tryz.prog 380 [(false,[.sl false [.s [],.sl false [.i .i64 0,.s []] [],.i .i64 0,.sl false [.s [],.i .i64 0,.s []] []] (l.map (d9.cells false false))]),(false,[.f 328 [.p [.s n],.p [.sl false [.i .i64 0,.s []] (r.V.map c7.cells)]]])] [] (.one (false,[.i .i64 (a0H (fun y:d9=>y.Name==n&&decide (y.Row.V=r.V)) l)])):=by
 refine sx' false false none Tryz.func380 c1u [.t 4] [(328,[],a3F)] ?_
 intro hb hE
 simp only [go_sem];(repeat' first | apply CJ.mk | intro hc);all_goals try exact om'
 refine lq' false [0,1,7] [] [] (fun i:{i:Nat // i≤l.length∧(l.take i).any (fun y:d9=>y.Name==n&&decide (y.Row.V=r.V))=false}=>[(8,slV (.i .i64 i.1))]) nl' nl' (fun i=>l.length - i.1) (⟨0,by simp⟩) ?_
 intro S0 hS0 i
 obtain ⟨i,hi,ha⟩:=i
 simp only [go_sem,hS0];(repeat' first | apply CJ.mk | intro hc);all_goals try exact om'
 ·exact (o0 (p:=fun y:d9=>y.Name==n&&decide (y.Row.V=r.V)) (d:=default) (by omega) ha (by simpa [-List.getD_eq_getElem?_getD] using hc)).symm
 ·exact nx0 ⟨i+1,by omega,j5 (p:=fun y:d9=>y.Name==n&&decide (y.Row.V=r.V)) default (by omega) ha (by simpa [-List.getD_eq_getElem?_getD] using hc)⟩
 ·exact (n9 (by rwa [f9 (by omega)] at ha)).symm
noncomputable def a9Z:CT:=i3 (fun (x:(List d9)×(List UInt8)×d6)=>b9X x.1 x.2.1 x.2.2)
@[go_sem] def c7t:=fun l n x0=>nm' (fQ' a9Z rfl (l,n,⟨x0⟩))
@[go_sem] def c1r:ACode:=q' 0 [ab 4 false] (q' 5 [aM [0,1],ac 380 [5,6],ao (.bin .geq (.t 7) (k' 0)),aV 4] .ret)
theorem b9T (l:List d9) (n:List UInt8) (r:d6):Z9 Tryz.prog 327 [(false,[.sl false [.s [],.sl false [.i .i64 0,.s []] [],.i .i64 0,.sl false [.s [],.i .i64 0,.s []] []] (l.map (d9.cells false false))]),(false,[.f 328 [.p [.s n],.p [.sl false [.i .i64 0,.s []] (r.V.map c7.cells)]]])] [] (.one (false,[.b (l.any (fun y:d9=>y.Name==n&&decide (y.Row.V=r.V)))])):=by
 refine sx' false false none Tryz.func327 c1r [.t 4] [(380,[],a9Z)] ?_
 intro hb hE
 simp only [go_sem];(repeat' first | apply CJ.mk | intro hc);all_goals try exact om'
 ·exact z6 _ _
noncomputable def a9V:CT:=i3 (fun (x:(List d9)×(List UInt8)×d6)=>b9T x.1 x.2.1 x.2.2)
@[go_sem] def c7o:=fun l n x0=>nm' (fQ' a9V rfl (l,n,⟨x0⟩))
@[go_sem] def b2e:ACode:=q' 4 [ao (.box 1 (.t 1)),ao (.box 1 (.t 2)),ao (.mov (bb false))] (q' 7 [am 0,ao (.mf 328 [.t 4,.t 5]),ac 327 [7,8],aV 6] .ret)
theorem b5J (l:List d9) (n:List UInt8) (r:d6):Z9 Tryz.prog 226 [(false,[.sl false [.s [],.sl false [.i .i64 0,.s []] [],.i .i64 0,.sl false [.s [],.i .i64 0,.s []] []] (l.map (d9.cells false false))]),(false,[.s n]),(true,[.sl false [.i .i64 0,.s []] (r.V.map c7.cells)])] [] (.one (false,[.b (b0d l n r)])):=by
 refine sx' false false none Tryz.func226 b2e [.t 6] [(327,[],a9V)] ?_
 intro hb hE
 simp only [go_sem];(repeat' first | apply CJ.mk | intro hc);all_goals try exact om'
 all_goals rfl
noncomputable def a5H:CT:=i3 (fun (x:(List d9)×(List UInt8)×d6)=>b5J x.1 x.2.1 x.2.2)
@[go_sem] def c4C:=fun l n x0=>nm' (fQ' a5H rfl (l,n,⟨x0⟩))
abbrev bsP (l:List d6) (t:d6) (k:Nat):Bool:=decide (0≤a0w (l.getD k default).V t.V)
abbrev bsN (l:List d6) (t:d6):Nat:=u5 l.length (bsP l t)
theorem mid_eq {i j:Nat} (h:i+j≤4000000):IntKind.i64.wrap ((IntKind.u64.wrap (IntKind.i64.wrap ((i:Int)+j))).fdiv (2 ^ min 1 64))=(((i+j) / 2:Nat):Int):=by
 have e1:IntKind.i64.wrap ((i:Int)+j)=(i:Int)+j:=IntWalk.i64_in _ (by omega)
 have e2:IntKind.u64.wrap ((i:Int)+j)=(i:Int)+j:=IntWalk.u64_in _ (by omega)
 have e3:(2:Int) ^ min 1 64=2:=by decide
 rw [e1,e2,e3,Int.fdiv_eq_ediv_of_nonneg _ (by decide)]
 have e4:IntKind.i64.wrap (((i:Int)+j) / 2)=((i:Int)+j) / 2:=IntWalk.i64_in _ (by omega)
 rw [e4]
 omega
theorem bs_end {l:List d6} {t:d6} {i:Nat} (hi:i≤l.length) (ha:∀ k,k < i→bsP l t k=false) (hz:∀ k,i≤k→k < l.length→bsP l t k=true):bsN l t=i:=by
 by_cases h:i < l.length
 ·exact y9 ha (hz i (Nat.le_refl _) h) h
 ·have:i=l.length:=by omega
  subst this
  exact y8 ha
@[go_sem] def c6Z:ACode:=q' 4 [ao (.box 1 (.t 1)),az 6 0,ab 7 false] (q' 12 [am 0,aN,aV 8] (q' 9 [aV 14,aK 0,am 14] (.seq (.block 0 (.loop (.seq (q' 15 [aM [9,10],ar 15 16] (.cond (.t
 17) .skip (.exit 0))) (.block 1 (q' 18 [aM [9,10],ao (.bin .add (.t 18) (.t 19)),ao (.cv .u64 (.t 20)),ao (.bin .shr (.t 21) (.k (.v false [.c (.i .u64
 1)]))),ao (.cv .i64 (.t 22)),aV 11] (.seq (G' 24 [aM [2,0,11],aI 1,aE 1,ae 1 4,ao (.callv (.t 24) [.t 28,.t 29]),ao (.bin .lss (.t 30) (k' 0))]) (.cond (.t
 31) (g' 9 [av 32 11,ax (a' 33 32),am 33]) (g' 34 [am 11,aV 10])))))))) (.seq (G' 35 [aM [9,9,8],ar 36 37,am 38,au (.mov (.t 2)) 39 true,au (.mov (.t 0)) 39
 true,au (.mov (.t 9)) 39 true,au (.ia 1 (.t 41) (.t 42)) 39 true,au (.ld true 1 (.t 43)) 39 true,au (.ld true 1 (.t 4)) 39 true,au (.callv (.t 40) [.t 44,.t
 45]) 39 true,au (.bin .eql (.t 46) (k' 0)) 39 true,ao (.pick (.t 39) (.t 47) (bb false)),av 6 35,aV 7]) .ret))))
theorem k_bsRow (l:List d6) (t:d6) (hpre:l.length≤1000000∧∀ a b,a≤b→b < l.length→a0w (l.getD b default).V t.V < 0→a0w (l.getD a default).V t.V < 0):Z9 Tryz.prog 318 [(false,[.sl false [.sl false [.i .i64 0,.s []] []] (l.map (d6.cells false false))]),(true,[.sl false [.i .i64 0,.s []] (t.V.map c7.cells)]),(false,[.f 199 []])] [] (.tup [(false,[.i .i64 (((bsN l t:Nat),decide (bsN l t < l.length)&&a0w (l.getD (bsN l t) default).V t.V==0).1)]),(false,[.b (((bsN l t:Nat),decide (bsN l t < l.length)&&a0w (l.getD (bsN l t) default).V t.V==0).2)])]):=by
 refine sx' false false none Tryz.func318 c6Z [.t 6,.t 7] [(199,[],a3l)] ?_
 intro hb hE
 obtain ⟨hlen,hmo⟩:=hpre
 simp only [go_sem];(repeat' first | apply CJ.mk | intro hc);all_goals try exact om'
 refine lq' false [0,2,4,8] [8] [] (fun i:{p:Nat×Nat // p.1≤p.2∧p.2≤l.length∧(∀ k,k < p.1→bsP l t k=false)∧(∀ k,p.2≤k→k < l.length→bsP l t k=true)}=>[(9,slV (.i .i64 i.1.1)),(10,slV (.i .i64 i.1.2))]) nl' nl' (fun i=>i.1.2 - i.1.1) (⟨(0,l.length),by simp,by simp,by intro k h;simp at h,by intro k h1 h2;simp at h1;omega⟩) ?_
 intro S0 hS0 i
 obtain ⟨⟨i,j⟩,hij,hj,ha,hz⟩:=i
 simp only at hij hj ha hz
 have hm:=mid_eq (i:=i) (j:=j) (by omega)
 simp only [go_sem,hS0,hm];(repeat' first | apply CJ.mk | intro hc);all_goals try exact om'
 ·have h1:∀ k,k < (i+j) / 2+1→bsP l t k=false:=by
   intro k hk
   have:=hmo k ((i+j) / 2) (by omega) (by omega) hc
   exact decide_eq_false (by omega)
  (refine lpK_n2 (⟨((i+j) / 2+1,j),by simp only;omega,hj,h1,hz⟩) _ rfl ?_;simp only [go_sem,hS0,hm];first | done | ((repeat' apply And.intro)<;>try exact on'))
 ·have h1:∀ k,(i+j) / 2≤k→k < l.length→bsP l t k=true:=by
   intro k hk hl
   refine decide_eq_true ?_
   have:¬ a0w (l.getD k default).V t.V < 0:=fun h=>hc (hmo _ k hk hl h)
   omega
  (refine lpK_n2 (⟨(i,(i+j) / 2),by simp only;omega,by simp only;omega,ha,h1⟩) _ rfl ?_;simp only [go_sem,hS0,hm];first | done | ((repeat' apply And.intro)<;>try exact on'))
 ·have hz':∀ k,i≤k→k < l.length→bsP l t k=true:=fun k h1 h2=>hz k (by omega) h2
  rw [bs_end (by omega) ha hz']
  refine ⟨rfl, ?_⟩
  congr 1
  exact decide_eq_decide.2 (by omega)
noncomputable def c2C:CT:=l5 (fun (x:(List d6)×d6) h=>k_bsRow x.1 x.2 h)
@[go_sem] def c_bsRow_eq:=fun l x0=>nm' (fP' c2C rfl (l,⟨x0⟩))
@[go_sem] def b7z:ACode:=q' 2 [ao (.box 2 (.t 0)),ao (.box 1 (.t 1)),aK 0,ao (.mov (bb false))] (q' 6 [aG 1 2,ae 1 3,ao (.call 318 [.t 7,.t 8,.k (.v false [.c (.f 199 [])])]),ao (.ext
 (.t 9) 0),ao (.ext (.t 9) 1),av 4 10,aV 5] .ret)
theorem c0b (r:f8) (t:d6) (hpre:r.Rows.length≤1000000∧∀ a b,a≤b→b < r.Rows.length→a0w (r.Rows.getD b default).V t.V < 0→a0w (r.Rows.getD a default).V t.V < 0):Z9 Tryz.prog 203 [(true,[.i .i64 r.Arity,.sl false [.sl false [.i .i64 0,.s []] []] (r.Rows.map (d6.cells false false))]),(true,[.sl false [.i .i64 0,.s []] (t.V.map c7.cells)])] [] (.tup [(false,[.i .i64 (((bsN r.Rows t:Nat),decide (bsN r.Rows t < r.Rows.length)&&a0w (r.Rows.getD (bsN r.Rows t) default).V t.V==0).1)]),(false,[.b (((bsN r.Rows t:Nat),decide (bsN r.Rows t < r.Rows.length)&&a0w (r.Rows.getD (bsN r.Rows t) default).V t.V==0).2)])]):=by
 refine sx' false false none Tryz.func203 b7z [.t 4,.t 5] [(318,[],c2C)] ?_
 intro hb hE
 obtain ⟨hlen,hmo⟩:=hpre
 simp only [go_sem];(repeat' first | apply CJ.mk | intro hc);all_goals try exact om'
 all_goals exact ⟨hlen,hmo⟩
noncomputable def b0b:CT:=l5 (fun (x:f8×d6) h=>c0b x.1 x.2 h)
@[go_sem] def c7x:=fun x0 x1 x2=>nm' (fP' b0b rfl (⟨x0,x1⟩,⟨x2⟩))
theorem b9c {x y:List UInt8} (h:Op.bytesLess x y=true):(y==[])=false:=by
 cases y with
 | nil=>cases x<;>simp [Op.bytesLess] at h
 | cons a y=>rfl
theorem c8e {a b c:c7} (h1:o9 a b=true) (h2:o9 b c=true):o9 a c=true:=by
 unfold o9 at *
 cases ha:(a.S==[])<;>cases hb:(b.S==[])<;>cases hc:(c.S==[])<;>simp only [ha,hb,hc,Bool.and_self,Bool.and_false,Bool.false_and,Bool.and_true,cond_true,cond_false,decide_eq_true_eq] at h1 h2 ⊢
 all_goals first
  | (rw [b9c h1] at hb;exact absurd hb (by decide))
  | (rw [b9c h2] at hc;exact absurd hc (by decide))
  | omega
  | exact a0L _ _ _ h1 h2
  | (rw [beq_iff_eq] at ha;rw [ha];cases hcs:c.S with
      | nil=>rw [hcs] at hc;cases hc
      | cons x y=>rfl)
theorem c2w {a b:c7} (ha:i8 a=true) (hb:i8 b=true) (h1:o9 a b=false) (h2:o9 b a=false):a=b:=by
 have:=a9O ha hb
 rw [h1,h2,Bool.false_or] at this
 exact c8d (by simpa using this)
abbrev okL (a:List c7):Prop:=∀ x∈a,i8 x=true
theorem okL.tl {x:c7} {a:List c7} (h:okL (x::a)):okL a:=fun y hy=>h y (by simp [hy])
theorem b8E:∀ {a b c:List c7},okL a→okL b→okL c→a0h a b=-1→a0h b c=-1→a0h a c=-1
 | [],[],_,_,_,_,h,_=>by simp [a0h] at h
 | [],y::b,[],_,_,_,_,h=>by simp [a0h] at h
 | [],y::b,z::c,_,_,_,_,_=>rfl
 | x::a,[],_,_,_,_,h,_=>by simp [a0h] at h
 | x::a,y::b,[],_,_,_,_,h=>by simp [a0h] at h
 | x::a,y::b,z::c,ha,hb,hc,h1,h2=>by
   have hx:=ha x (by simp)
   have hy:=hb y (by simp)
   have hz:=hc z (by simp)
   rw [a0h] at h1 h2 ⊢
   cases e1:o9 x y with
   | true=>
     cases e2:o9 y z with
     | true=>rw [c8e e1 e2];rfl
     | false=>
       rw [e2,cond_false] at h2
       cases e3:o9 z y with
       | true=>rw [e3,cond_true] at h2;omega
       | false=>rw [← c2w hy hz e2 e3,e1];rfl
   | false=>
     rw [e1,cond_false] at h1
     cases e3:o9 y x with
     | true=>rw [e3,cond_true] at h1;omega
     | false=>
       rw [e3,cond_false] at h1
       have:=c2w hx hy e1 e3
       subst this
       cases e2:o9 x z with
       | true=>rfl
       | false=>
         rw [e2,cond_false] at h2
         cases e4:o9 z x with
         | true=>rw [e4,cond_true] at h2;omega
         | false=>
           rw [e4,cond_false] at h2
           exact b8E ha.tl hb.tl hc.tl h1 h2
theorem b7f:∀ {a b:List c7},okL a→okL b→(a0h a b=0↔a=b)
 | [],[],_,_=>by simp [a0h]
 | [],y::b,_,_=>by simp [a0h]
 | x::a,[],_,_=>by simp [a0h]
 | x::a,y::b,ha,hb=>by
   have ih:=b7f ha.tl hb.tl
   rw [a0h]
   cases e1:o9 x y with
   | true=>
     simp only [cond_true,List.cons.injEq]
     refine ⟨fun h=>by omega,fun h=>?_⟩
     have h3:=a9O (ha x (by simp)) (hb y (by simp))
     rw [← h.1] at e1 h3
     rw [e1] at h3;simp at h3
   | false=>
     cases e2:o9 y x with
     | true=>
       simp only [cond_true,cond_false,List.cons.injEq]
       refine ⟨fun h=>by omega,fun h=>?_⟩
       rw [h.1] at e1 e2;rw [e1] at e2;cases e2
     | false=>
       have:=c2w (ha x (by simp)) (hb y (by simp)) e1 e2
       subst this
       simpa using ih
theorem c2r {r:f8} (h:a0g r=true):∀ {b a:Nat},a < b→b < r.Rows.length→a0h (r.Rows.getD a default).V (r.Rows.getD b default).V=-1:=by
 have hN:∀ i,i < r.Rows.length→w7 r i=false:=by
  intro i hi
  simp only [a0g,Bool.and_eq_true,Bool.not_eq_true'] at h
  exact a3j h.2 hi
 have hO:∀ i,i < r.Rows.length→okL (r.Rows.getD i default).V:=fun i hi=>u2 (a1V (hN i hi))
 intro b
 induction b with
 | zero=>intro a h;omega
 | succ b ih=>
   intro a hab hb
   have hs:a0h (r.Rows.getD b default).V (r.Rows.getD (b+1) default).V=-1:=by
    have:=hN (b+1) hb
    simp only [w7,Bool.or_eq_false_iff,Nat.zero_lt_succ,decide_true,Bool.true_and,Bool.not_eq_false',beq_iff_eq,Nat.add_sub_cancel] at this
    exact this.2
   rcases Nat.lt_succ_iff_lt_or_eq.1 hab with h1 | rfl
   ·exact b8E (hO a (by omega)) (hO b (by omega)) (hO _ hb) (ih h1 (by omega)) hs
   ·exact hs
theorem a1z {r:f8} (h:a0g r=true) {i:Nat} (hi:i < r.Rows.length):okL (r.Rows.getD i default).V:=by
 simp only [a0g,Bool.and_eq_true,Bool.not_eq_true'] at h
 exact u2 (a1V (a3j h.2 hi))
theorem b7G {a b:List c7} (ha:okL a) (hb:okL b):a0w a b < 0↔a0h a b=-1:=by
 have h:=a8u ha hb
 unfold sgn at h
 omega
theorem b7F {a b:List c7} (ha:okL a) (hb:okL b):a0w a b=0↔a=b:=by
 have h:=a8u ha hb
 rw [← b7f ha hb]
 unfold sgn at h
 omega
theorem c7V {r:f8} (h:a0g r=true) {t:d6} (ht:a0J t=true):∀ a b,a≤b→b < r.Rows.length→a0w (r.Rows.getD b default).V t.V < 0→a0w (r.Rows.getD a default).V t.V < 0:=by
 intro a b hab hb hl
 rcases Nat.lt_or_eq_of_le hab with h1 | rfl
 ·rw [b7G (a1z h hb) (u2 ht)] at hl
  rw [b7G (a1z h (by omega)) (u2 ht)]
  exact b8E (a1z h (by omega)) (a1z h hb) (u2 ht) (c2r h h1 hb) hl
 ·exact hl
theorem rel_has {r:f8} (h:a0g r=true) {t:d6} (ht:a0J t=true):(decide (bsN r.Rows t < r.Rows.length)&&a0w (r.Rows.getD (bsN r.Rows t) default).V t.V==0)=z5 r.Rows t:=by
 rw [Bool.eq_iff_iff]
 constructor
 ·intro hh
  simp only [Bool.and_eq_true,decide_eq_true_eq,beq_iff_eq] at hh
  exact any_true (p:=fun x:d6=>decide (x.V=t.V)) (d:=default) hh.1 (decide_eq_true ((b7F (a1z h hh.1) (u2 ht)).1 hh.2))
 ·intro hh
  rw [z5,List.any_eq_true] at hh
  obtain ⟨x,hx,he⟩:=hh
  obtain ⟨k,hk,rfl⟩:=List.getElem_of_mem hx
  rw [decide_eq_true_eq] at he
  have hg:=i6 (l:=r.Rows) default hk
  have e:bsN r.Rows t=k:=by
   refine y9 (fun j hj=>?_) ?_ hk
   ·refine decide_eq_false ?_
    have:=(b7G (a1z h (show j < r.Rows.length by omega)) (u2 ht)).2 (by
     have:=c2r h hj hk
     rw [hg,he] at this;exact this)
    omega
   ·refine decide_eq_true ?_
    rw [hg,(b7F (by rw [← hg];exact a1z h hk) (u2 ht)).2 he];omega
  rw [e,decide_eq_true hk,hg,(b7F (by rw [← hg];exact a1z h hk) (u2 ht)).2 he];rfl
@[go_sem] def b8Z:ACode:=q' 2 [ao (.box 2 (.t 0)),ao (.box 1 (.t 1)),ao (.mov (bb false))] (q' 8 [ae 2 2,ae 1 3,ac 203 [8,9],aV 7,ao (.ext (.t 7) 0),ao (.ext (.t 7) 1),av 5 11,aV 6] (q'
 13 [am 6,aV 4] .ret))
theorem c2m (r:f8) (t:d6) (hpre:a0g r=true∧a0J t=true):Z9 Tryz.prog 98 [(true,[.i .i64 r.Arity,.sl false [.sl false [.i .i64 0,.s []] []] (r.Rows.map (d6.cells false false))]),(true,[.sl false [.i .i64 0,.s []] (t.V.map c7.cells)])] [] (.one (false,[.b (z5 r.Rows t)])):=by
 refine sx' false false none Tryz.func98 b8Z [.t 4] [(203,[],b0b)] ?_
 intro hb hE
 obtain ⟨hR,hT⟩:=hpre
 simp only [go_sem];(repeat' first | apply CJ.mk | intro hc);all_goals try exact om'
 ·exact ⟨by have:=c5M hR;omega,c7V hR hT⟩
 ·exact rel_has hR hT
noncomputable def a6F:CT:=l5 (fun (x:f8×d6) h=>c2m x.1 x.2 h)
@[go_sem] def c8n:=fun x0 x1 x2=>nm' (fP' a6F rfl (⟨x0,x1⟩,⟨x2⟩))
end Go.Aw
