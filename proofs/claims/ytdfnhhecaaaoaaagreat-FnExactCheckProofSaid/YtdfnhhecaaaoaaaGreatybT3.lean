/- Variables of terms, texts in order. No condition. -/
import Derived.Test.YtdfnhhecaaaoaaaGreatybG8
import Derived.Test.YtdfnhhecaaaoaaaGreatybS1
import Derived.Test.YtdfnhhecaaaoaaaGreatnBwtyb
namespace Go.Aw
open Go.Proofs
attribute [local irreducible] aft blk lpK retK AW Z9
set_option linter.all false
set_option maxRecDepth 100000
abbrev sLt:List UInt8→List UInt8→Bool:=Op.bytesLess
def a1r {α:Type} (lt:α→α→Bool) (s:α) (t:List α):List α:=bif t.any (lt s) then t.takeWhile (fun x=>!lt s x)++s::t.dropWhile (fun x=>!lt s x) else t
theorem c8c {α:Type} {q:α→Bool} {t:List α} (h:∀ x∈t,q x=true):t.takeWhile q=t∧t.dropWhile q=[]:=by
 induction t with
 | nil=>exact ⟨rfl,rfl⟩
 | cons a t ih=>
   have ha:=h a (by simp)
   have:=ih fun x hx=>h x (by simp [hx])
   simp [List.takeWhile_cons,List.dropWhile_cons,ha,this.1,this.2]
theorem tw_app {α:Type} {q:α→Bool} {t u:List α} (h:∃ x∈t,q x=false):(t++u).takeWhile q=t.takeWhile q∧(t++u).dropWhile q=t.dropWhile q++u:=by
 induction t with
 | nil=>obtain ⟨x,hx,_⟩:=h;simp at hx
 | cons a t ih=>
   cases ha:q a with
   | false=>simp [List.takeWhile_cons,List.dropWhile_cons,ha]
   | true=>
     obtain ⟨x,hx,hq⟩:=h
     have:=ih ⟨x,by
      rcases List.mem_cons.1 hx with rfl | hx
      ·rw [ha] at hq;simp at hq
      ·exact hx,hq⟩
     simp [List.takeWhile_cons,List.dropWhile_cons,ha,this.1,this.2]
theorem a1x {α:Type} {lt:α→α→Bool} {s:α} {t:List α} (h:t.any (lt s)=false):∀ x∈t,(fun x=>!lt s x) x=true:=by
 intro x hx
 rw [List.any_eq_false] at h
 have:=h x hx
 simpa using this
theorem b9b {α:Type} {lt:α→α→Bool} {s:α} {t:List α} (h:t.any (lt s)=true):∃ x∈t,(fun x=>!lt s x) x=false:=by
 rw [List.any_eq_true] at h
 obtain ⟨x,hx,hp⟩:=h
 exact ⟨x,hx,by simp [hp]⟩
theorem b9M {α:Type} {lt:α→α→Bool} {s x:α} {t:List α} (h:t.any (lt s)=true):a1r lt s (t++[x])=a1r lt s t++[x]:=by
 have e:=tw_app (u:=[x]) (b9b h)
 have h2:(t++[x]).any (lt s)=true:=by rw [List.any_append,h];rfl
 unfold a1r
 rw [h,h2,e.1,e.2,cond_true,cond_true,List.append_assoc];rfl
theorem c3G {α:Type} {lt:α→α→Bool} {s x:α} {t:List α} (h:t.any (lt s)=false) (hx:lt s x=true):a1r lt s (t++[x])=a1r lt s t++[s]++[x]:=by
 have e:=c8c (a1x h)
 have h2:(t++[x]).any (lt s)=true:=by rw [List.any_append,h];simp [hx]
 unfold a1r
 rw [h,h2,cond_true,cond_false]
 rw [List.takeWhile_append_of_pos (a1x h),List.dropWhile_append_of_pos (a1x h)]
 simp [List.takeWhile_cons,List.dropWhile_cons,hx]
theorem c7G {α:Type} {lt:α→α→Bool} {s x:α} {t:List α} (h:t.any (lt s)=false) (hx:lt s x=false):a1r lt s (t++[x])=a1r lt s t++[x]:=by
 have h2:(t++[x]).any (lt s)=false:=by rw [List.any_append,h];simp [hx]
 unfold a1r
 rw [h,h2];rfl
theorem b9N {α:Type} [DecidableEq α] {lt:α→α→Bool} {s:α} {l:List α} (hm:¬ s∈l) (h:l.any (lt s)=true):a0r lt l s=a1r lt s l:=by
 rw [a0r,if_neg hm,a1r,h];rfl
theorem b9O {α:Type} [DecidableEq α] {lt:α→α→Bool} {s:α} {l:List α} (hm:¬ s∈l) (h:l.any (lt s)=false):a0r lt l s=a1r lt s l++[s]:=by
 have e:=c8c (a1x h)
 rw [a0r,if_neg hm,a1r,h,e.1,e.2];rfl
theorem c3H {α:Type} (lt:α→α→Bool) (s:α) (t:List α):(a1r lt s t).length≤t.length+1:=by
 unfold a1r
 cases t.any (lt s) with
 | false=>simp
 | true=>
   have e:=congrArg List.length (List.takeWhile_append_dropWhile (p:=fun x=>!lt s x) (l:=t))
   simp only [List.length_append] at e
   simp only [cond_true,List.length_append,List.length_cons]
   omega
theorem put_len {α:Type} [DecidableEq α] (lt:α→α→Bool) (l:List α) (s:α):(a0r lt l s).length≤l.length+1:=by
 unfold a0r
 split
 ·omega
 ·have e:=congrArg List.length (List.takeWhile_append_dropWhile (p:=fun x=>!lt s x) (l:=l))
  simp only [List.length_append] at e
  simp only [List.length_append,List.length_cons]
  omega
theorem a0I {α:Type} [DecidableEq α] (lt:α→α→Bool):∀ (r l:List α),(l4 lt l r).length≤l.length+r.length:=by
 intro r
 induction r with
 | nil=>intro l;exact Nat.le_refl _
 | cons a r ih=>
   intro l
   have:=ih (a0r lt l a)
   have:=put_len lt l a
   simp only [l4,List.foldl_cons,List.length_cons] at *
   omega
theorem b7d {α:Type} [DecidableEq α] (lt:α→α→Bool) (l r:List α) (x:α):l4 lt l (r++[x])=a0r lt (l4 lt l r) x:=by
 simp [l4,List.foldl_append]
def t6 (t:c8):Bool:=!(t.Var==[])
def j3 (l:List c8):List (List UInt8):=(l.filter t6).map c8.Var
def a3Z (l:List c8):List (List UInt8):=l4 sLt [] (j3 l)
theorem c8g (l:List c8):Lib.compact (a8v sLt (j3 l))=a3Z l:=
 a7Q l6 (SS.puts l6 SS.nil) fun x=>by rw [a3Z,t7];simp
theorem a0R (l:List c8):(j3 l).length≤l.length:=a9q _ _ _
theorem a6h (l:List (List UInt8)) (v:List UInt8):l.contains v=l.any (fun x=>x==v):=by
 rw [List.contains_eq_any_beq];congr 1;funext x;exact Bool.eq_iff_iff.2 ⟨fun h=>by rw [beq_iff_eq] at h ⊢;exact h.symm,fun h=>by rw [beq_iff_eq] at h ⊢;exact h.symm⟩
@[go_sem] def ac_idxS:ACode:=q' 4 [aK 0] (.seq (q' 6 [am 0,aN,aK 0] (.block 0 (.loop (q' 9 [ar 8 7] (.seq (.cond (.t 9) .skip (.exit 0)) (.seq (.block 1 (q' 10 [am 8,aV 5] (q' 11 [aM
 [1,0,5],aI 1,aL,ao (.bin .eql (.t 11) (.t 15))] (.cond (.t 16) (q' 17 [am 5,aV 4] .ret) .skip)))) (g' 18 [aA 8]))))))) (q' 4 [ao (.mov (.k (.v false [.c (.i
 .i64 (-1))])))] .ret))
theorem k_idxS (l:List (List UInt8)) (v:List UInt8):Z9 Tryz.prog 274 [(false,[.sl false [.s []] (l.map j8)]),(false,[.s v])] [] (.one (false,[.i .i64 (a0H (fun y=>v==y) l)])):=by
 refine sx' false false none Tryz.func274 ac_idxS [.t 4] [] ?_
 intro hb hE
 simp only [go_sem];(repeat' first | apply CJ.mk | intro hc);all_goals try exact om'
 refine lq' false [0,1,7] [] [] (fun i:{i:Nat // i≤l.length∧(l.take i).any (fun y=>v==y)=false}=>[(8,slV (.i .i64 i.1))]) nl' nl' (fun i=>l.length - i.1) (⟨0,by simp⟩) ?_
 intro S0 hS0 i
 obtain ⟨i,hi,ha⟩:=i
 simp only [go_sem,hS0];(repeat' first | apply CJ.mk | intro hc);all_goals try exact om'
 ·exact (o0 (p:=fun y=>v==y) (d:=[]) (by omega) ha hc).symm
 ·exact nx0 ⟨i+1,by omega,j5 (p:=fun y=>v==y) [] (by omega) ha hc⟩
 ·exact (n9 (by rwa [f9 (by omega)] at ha)).symm
noncomputable def c7s:CT:=i3 (fun (x:(List (List UInt8))×(List UInt8))=>k_idxS x.1 x.2)
@[go_sem] def c_idxS_eq:=fun l v=>nm' (fQ' c7s rfl (l,v))
@[go_sem] def ac_conS:ACode:=q' 0 [ab 4 false] (q' 5 [aM [0,1],ac 274 [5,6],ao (.bin .geq (.t 7) (k' 0)),aV 4] .ret)
theorem k_conS (l:List (List UInt8)) (v:List UInt8):Z9 Tryz.prog 158 [(false,[.sl false [.s []] (l.map j8)]),(false,[.s v])] [] (.one (false,[.b (l.contains v)])):=by
 refine sx' false false none Tryz.func158 ac_conS [.t 4] [(274,[],c7s)] ?_
 intro hb hE
 simp only [go_sem];(repeat' first | apply CJ.mk | intro hc);all_goals try exact om'
 all_goals (rw [List.contains_eq_any_beq];exact z6 _ _)
noncomputable def c7n:CT:=i3 (fun (x:(List (List UInt8))×(List UInt8))=>k_conS x.1 x.2)
@[go_sem] def c_conS_eq:=fun l v=>nm' (fQ' c7n rfl (l,v))
@[go_sem] def b2R:ACode:=q' 0 [ab 4 false] (.seq (q' 7 [am 0,aN,aK 0] (.block 0 (.loop (q' 10 [ar 9 8] (.seq (.cond (.t 10) .skip (.exit 0)) (.seq (.block 1 (q' 11 [ai 1 7 9,aL,aV 6]
 (q' 13 [aM [6,1],ao (.bin .eql (.t 13) (.t 14))] (.cond (.t 15) (q' 0 [ab 4 true] .ret) .skip)))) (g' 16 [aA 9]))))))) (q' 0 [ab 4 false] .ret))
theorem b6x (l:List (List UInt8)) (v:List UInt8):Z9 Tryz.prog 185 [(false,[.sl false [.s []] (l.map j8)]),(false,[.s v])] [] (.one (false,[.b (l.contains v)])):=by
 refine sx' false false none Tryz.func185 b2R [.t 4] [] ?_
 intro hb hE
 simp only [go_sem];(repeat' first | apply CJ.mk | intro hc);all_goals try exact om'
 refine lq' false [1,7,8] [] [] (fun i:{i:Nat // i≤l.length∧(l.take i).any (fun x=>x==v)=false}=>[(9,slV (.i .i64 i.1))]) nl' nl' (fun i=>l.length - i.1) (⟨0,by simp⟩) ?_
 intro S0 hS0 i
 obtain ⟨i,hi,ha⟩:=i
 simp only [go_sem,hS0];(repeat' first | apply CJ.mk | intro hc);all_goals try exact om'
 ·rw [a6h,any_true (d:=[]) (i:=i) (by omega) hc]
 ·exact nx0 ⟨i+1,by omega,j5 [] (by omega) ha hc⟩
 ·rw [a6h,← ha,f9 (by omega)]
noncomputable def a2C:CT:=i3 (fun (x:(List (List UInt8))×(List UInt8))=>b6x x.1 x.2)
@[go_sem] def c5o:=fun l v=>nm' (fQ' a2C rfl (l,v))
@[go_sem] def a4h:ACode:=q' 4 [ao (.mov (.k (.v false [.nl [.s []]])))] (q' 9 [ao (.bsl 1 0 [.s] []),aV 5] (q' 0 [ab 6 false] (.seq (q' 10 [am 0,aN,aK 0] (.block 0 (.loop (q' 13 [ar 12
 11] (.seq (.cond (.t 13) .skip (.exit 0)) (.seq (.block 1 (q' 14 [ai 1 10 12,aL,aV 8] (.seq (q' 16 [aM [8,1],ao (.bin .eql (.t 16) (.t 17))] (.cond (.t 18)
 (q' 19 [am 0,aV 4] .ret) .skip)) (.seq (q' 20 [am 6,ao (.not (.t 20)),am 21,au (.mov (.t 1)) 22 true,au (.mov (.t 8)) 22 true,au (.bin .lss (.t 23) (.t 24))
 22 true,ao (.pick (.t 22) (.t 25) (bb false))] (.cond (.t 26) (q' 27 [aM [5,1],ao (.bsl 1 1 [.s] [(0,.t 28)]),ao (.app 1 16 [.s] (.t 27) (.t 29)),aV 5] (g' 0
 [ab 6 true])) .skip)) (g' 31 [aM [5,8],ao (.bsl 1 1 [.s] [(0,.t 32)]),ao (.app 1 16 [.s] (.t 31) (.t 33)),aV 5]))))) (g' 35 [aA 12]))))))) (.seq (q' 36 [am
 6,ao (.not (.t 36))] (.cond (.t 37) (g' 38 [aM [5,1],ao (.bsl 1 1 [.s] [(0,.t 39)]),ao (.app 1 16 [.s] (.t 38) (.t 40)),aV 5]) .skip)) (q' 42 [am 5,aV 4]
 .ret)))))
theorem b6y (l:List (List UInt8)) (s:List UInt8) (hpre:l.length < 1099511627776):Z9 Tryz.prog 379 [(false,[.sl false [.s []] (l.map j8)]),(false,[.s s])] [] (.one (false,[.sl false [.s []] ((a0r sLt l s).map j8)])):=by
 refine sx' false true none Tryz.func379 a4h [.t 4] [] ?_
 intro hb hE
 simp only [go_sem];(repeat' first | apply CJ.mk | intro hc);all_goals try exact om'
 refine lk' false [(false,5,0,100010)] [0,1,10,11] [] [] (fun i:{i:Nat // i≤l.length∧¬ s∈l.take i}=>[(5,.v false [.ow 100010]),(6,slV (.b ((l.take i.1).any (sLt s)))),(12,slV (.i .i64 i.1))]) nl' (fun i=>[(100010,[.s []],(a1r sLt s (l.take i.1)).map j8)]) (fun i=>l.length - i.1) (⟨0,by simp⟩) ?_
 intro S0 hS0 i
 obtain ⟨i,hi,hm⟩:=i
 simp only [go_sem,hS0];(repeat' first | apply CJ.mk | intro hc);all_goals try exact om'
 all_goals have hl:=c3H sLt s (l.take i)
 all_goals rw [List.length_take] at hl
 ·have hm2:s∈l:=by
   rw [beq_iff_eq] at hc
   have:=i6 (l:=l) [] (i:=i) (by omega)
   rw [← hc,this];exact List.getElem_mem _
  rw [a0r,if_pos hm2]
 ·omega
 ·omega
 ·have hx:=i5 (l:=l) [] (i:=i) (by omega)
  have hn:¬ s∈l.take (i+1):=by rw [hx];simp only [List.mem_append,List.mem_singleton];rintro (h | h);exact hm h;subst h;simp at *
  have h1:(l.take (i+1)).any (sLt s)=true:=by rw [hx,List.any_append,hc.1,List.any_cons,show sLt s (l.getD i [])=true from hc.2];rfl
  have h2:a1r sLt s (l.take (i+1))=a1r sLt s (l.take i)++[s]++[l.getD i []]:=by rw [hx,c3G hc.1 hc.2]
  (refine lpK_n2 (⟨i+1,by omega,hn⟩) _ (by simp only [go_sem];try rfl) ?_;simp only [go_sem,hS0];first | done | ((repeat' apply And.intro)<;>try exact on'))
  all_goals first | rw [h1] | rw [h2]
 ·omega
 ·have hx:=i5 (l:=l) [] (i:=i) (by omega)
  have hn:¬ s∈l.take (i+1):=by rw [hx];simp only [List.mem_append,List.mem_singleton];rintro (h | h);exact hm h;subst h;simp at *
  have h3:(l.take (i+1)).any (sLt s)=(l.take i).any (sLt s)∧a1r sLt s (l.take (i+1))=a1r sLt s (l.take i)++[l.getD i []]:=by
   rw [hx]
   cases h:(l.take i).any (sLt s) with
   | true=>exact ⟨by rw [List.any_append,h];rfl,b9M h⟩
   | false=>
     rw [h] at hc
     have hc2:sLt s (l.getD i [])=false:=hc
     exact ⟨by rw [List.any_append,h,List.any_cons,hc2];rfl,c7G h hc2⟩
  (refine lpK_n2 (⟨i+1,by omega,hn⟩) _ (by simp only [go_sem];try rfl) ?_;simp only [go_sem,hS0];first | done | ((repeat' apply And.intro)<;>try exact on'))
  all_goals first | rw [h3.1] | rw [h3.2]
 ·omega
 ·rw [f9 (by omega)] at hc hm ⊢
  rw [b9O hm hc]
 ·rw [f9 (by omega)] at hc hm ⊢
  rw [b9N hm hc]
noncomputable def a6f:CT:=l5 (fun (x:(List (List UInt8))×(List UInt8)) h=>b6y x.1 x.2 h)
@[go_sem] def c5p:=fun l s=>nm' (fP' a6f rfl (l,s))
@[go_sem] def b2j:ACode:=q' 2 [ao (.mov (.k (.v false [.nl [.s []]])))] (q' 6 [ao (.bsl 1 0 [.s] []),aV 3] (.seq (q' 7 [am 0,aN,aK 0] (.block 0 (.loop (q' 10 [ar 9 8] (.seq (.cond (.t
 10) .skip (.exit 0)) (.seq (.block 1 (q' 11 [ai 3 7 9,aE 3,ax (w' 5 [.s,.i .i64,.s]),aS 3 5 12] (q' 13 [aG 0 5,ao (.bin .neq (.t 14) (.k (.v false [.c (.s
 [])])))] (.cond (.t 15) (g' 16 [am 3,aG 0 5,ao (.bsl 1 1 [.s] [(0,.t 18)]),ao (.app 1 16 [.s] (.t 16) (.t 19)),aV 3]) .skip)))) (g' 21 [aA 9]))))))) (q' 22
 [am 3,ac 269 [22]] (q' 24 [am 3,ac 270 [24],aV 2] .ret))))
theorem b5O (l:List c8) (hpre:l.length < 1099511627776):Z9 Tryz.prog 268 [(false,[.sl false [.s [],.i .i64 0,.s []] (l.map c8.cells)])] [] (.one (false,[.sl true [.s []] ((a3Z l).map j8)])):=by
 refine sx' false false none Tryz.func268 b2j [.t 2] [(269,[0],a9i),(270,[0],b3b)] ?_
 intro hb hE
 simp only [go_sem];(repeat' first | apply CJ.mk | intro hc);all_goals try exact om'
 refine lk' false [(false,3,0,100006)] [7,8] [] [] (fun i:{i:Nat // i≤l.length}=>[(3,.v false [.ow 100006]),(9,slV (.i .i64 i.1))]) nl' (fun i=>[(100006,[.s []],(j3 (l.take i.1)).map j8)]) (fun i=>l.length - i.1) (⟨0,by simp⟩) ?_
 intro S0 hS0 i
 obtain ⟨i,hi⟩:=i
 simp only [go_sem,hS0];(repeat' first | apply CJ.mk | intro hc);all_goals try exact om'
 all_goals have hl:=a0R (l.take i)
 all_goals rw [List.length_take] at hl
 ·omega
 ·(refine lpK_n2 (⟨i+1,by omega⟩) _ (by simp only [go_sem];try rfl) ?_;simp only [go_sem,hS0];first | done | ((repeat' apply And.intro)<;>try exact on'))
  all_goals rw [j3,j3,a6J (p:=t6) c8.Var default (by omega) (by rw [t6,hc];rfl)]
 ·(refine lpK_n2 (⟨i+1,by omega⟩) _ (by simp only [go_sem];try rfl) ?_;simp only [go_sem,hS0];first | done | ((repeat' apply And.intro)<;>try exact on'))
  all_goals rw [j3,j3,b3s (p:=t6) c8.Var default (by omega) (by rw [t6,hc];rfl)]
 ·omega
 ·rw [f9 (by omega),c8g]
noncomputable def a2q:CT:=l5 (fun (x:(List c8)) h=>b5O x h)
@[go_sem] def c4H:=fun l=>nm' (fP' a2q rfl l)
@[go_sem] def a2F:ACode:=q' 4 [ao (.mov (.k (.v false [.nl [.s []]])))] (.seq (q' 7 [am 1,aN,aK 0] (.block 0 (.loop (q' 10 [ar 9 8] (.seq (.cond (.t 10) .skip (.exit 0)) (.seq (.block 1
 (q' 11 [ai 3 7 9,aE 3,ax (w' 6 [.s,.i .i64,.s]),aS 3 6 12] (q' 13 [aG 0 6,ao (.bin .neq (.t 14) (.k (.v false [.c (.s [])])))] (.cond (.t 15) (g' 16 [am
 0,aG 0 6,ac 379 [16,18],aV 0]) .skip)))) (g' 20 [aA 9]))))))) (q' 21 [am 0,aV 4] .ret))
theorem b1K (a:List (List UInt8)) (l:List c8) (hpre:a.length+l.length < 1099511627776):Z9 Tryz.prog 307 [(false,[.sl false [.s []] (a.map j8)]),(false,[.sl false [.s [],.i .i64 0,.s []] (l.map c8.cells)])] [] (.one (false,[.sl false [.s []] ((l4 sLt a (j3 l)).map j8)])):=by
 refine sx' false true none Tryz.func307 a2F [.t 4] [(379,[],a6f)] ?_
 intro hb hE
 simp only [go_sem];(repeat' first | apply CJ.mk | intro hc);all_goals try exact om'
 refine lq' false [7,8] [] [] (fun i:{i:Nat // i≤l.length}=>[(0,.v false [.c (.sl false [.s []] ((l4 sLt a (j3 (l.take i.1))).map j8))]),(9,slV (.i .i64 i.1))]) nl' nl' (fun i=>l.length - i.1) (⟨0,by simp⟩) ?_
 intro S0 hS0 i
 obtain ⟨i,hi⟩:=i
 simp only [go_sem,hS0];(repeat' first | apply CJ.mk | intro hc);all_goals try exact om'
 all_goals have hl:=a0R (l.take i)
 all_goals have hl2:=a0I sLt (j3 (l.take i)) a
 all_goals rw [List.length_take] at hl
 ·omega
 ·(refine lpK_n2 (⟨i+1,by omega⟩) _ rfl ?_;simp only [go_sem,hS0];first | done | ((repeat' apply And.intro)<;>try exact on'))
  all_goals rw [show j3 (l.take (i+1))=j3 (l.take i)++[(l.getD i default).Var] by rw [j3,j3,a6J (p:=t6) c8.Var default (by omega) (by rw [t6,hc];rfl)],b7d]
 ·(refine lpK_n2 (⟨i+1,by omega⟩) _ rfl ?_;simp only [go_sem,hS0];first | done | ((repeat' apply And.intro)<;>try exact on'))
  all_goals rw [show j3 (l.take (i+1))=j3 (l.take i) by rw [j3,j3,b3s (p:=t6) c8.Var default (by omega) (by rw [t6,hc];rfl)]]
 ·rw [f9 (by omega)]
noncomputable def a0m:CT:=l5 (fun (x:(List (List UInt8))×(List c8)) h=>b1K x.1 x.2 h)
@[go_sem] def a1R:=fun a l=>nm' (fP' a0m rfl (a,l))
end Go.Aw
