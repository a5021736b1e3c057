/- Variables of terms, texts in order. No condition. -/
import Derived.Test.YtokefohpgeajaaaGreatwcS1
import Derived.Test.YtokefohpgeajaaaGreatqBx7wc
namespace Go.Aw
open Go.Proofs
attribute [local irreducible] aft blk lpK retK AW A0d
set_option linter.all false
set_option maxRecDepth 100000
abbrev sLt:List UInt8->List UInt8->Bool:=Op.bytesLess
def a2O {α:Type} (lt:α->α->Bool) (s:α) (t:List α):List α:=bif t.any (lt s) then t.takeWhile (fun x=>!lt s x)++s::t.dropWhile (fun x=>!lt s x) else t
def c7a {α:Type} {q:α->Bool} {t:List α} (h:∀ x∈t,q x=true):t.takeWhile q=t/\t.dropWhile q=[]:=by
 induction t with
 | nil=>exact ⟨rfl,rfl⟩
 | cons a t ih=>
   have ha:=h a (by simp);have:=ih fun x hx=>h x (by simp [hx])
   simp [q0Z,q3Z,ha,this.1,this.2]
def tw_app {α:Type} {q:α->Bool} {t u:List α} (h:∃ x∈t,q x=false):(t++u).takeWhile q=t.takeWhile q/\(t++u).dropWhile q=t.dropWhile q++u:=by
 induction t with
 | nil=>obtain ⟨x,hx,_⟩:=h;simp at hx
 | cons a t ih=>
   cases ha:q a with
   | false=>simp [q0Z,q3Z,ha]
   | true=>
     obtain ⟨x,hx,hq⟩:=h;have:=ih ⟨x,by
      rcases V6.1 hx with rfl|hx
      ·rw [ha] at hq;simp at hq
      ·exact hx,hq⟩
     simp [q0Z,q3Z,ha,this.1,this.2]
def a2V {α:Type} {lt:α->α->Bool} {s:α} {t:List α} (h:t.any (lt s)=false):∀ x∈t,(fun x=>!lt s x) x=true:=by
 intro x hx;rw [q2I] at h;have:=h x hx;simpa using this
def b8w {α:Type} {lt:α->α->Bool} {s:α} {t:List α} (h:t.any (lt s)=true):∃ x∈t,(fun x=>!lt s x) x=false:=by
 rw [q3C] at h;obtain ⟨x,hx,hp⟩:=h;exact ⟨x,hx,by simp [hp]⟩
def b9d {α:Type} {lt:α->α->Bool} {s x:α} {t:List α} (h:t.any (lt s)=true):a2O lt s (t++[x])=a2O lt s t++[x]:=by
 have e:=tw_app (u:=[x]) (b8w h);have h2:(t++[x]).any (lt s)=true:=by rw [q2F,h];rfl
 unfold a2O;rw [h,h2,e.1,e.2,W4,W4,q0N];rfl
def c2Y {α:Type} {lt:α->α->Bool} {s x:α} {t:List α} (h:t.any (lt s)=false) (hx:lt s x=true):a2O lt s (t++[x])=a2O lt s t++[s]++[x]:=by
 have e:=c7a (a2V h);have h2:(t++[x]).any (lt s)=true:=by rw [q2F,h];simp [hx]
 unfold a2O;rw [h,h2,W4,W2];rw [List.takeWhile_append_of_pos (a2V h),List.dropWhile_append_of_pos (a2V h)];simp [q0Z,q3Z,hx]
def c6s {α:Type} {lt:α->α->Bool} {s x:α} {t:List α} (h:t.any (lt s)=false) (hx:lt s x=false):a2O lt s (t++[x])=a2O lt s t++[x]:=by
 have h2:(t++[x]).any (lt s)=false:=by rw [q2F,h];simp [hx]
 unfold a2O;rw [h,h2];rfl
def b9e {α:Type} [DecidableEq α] {lt:α->α->Bool} {s:α} {l:List α} (hm:¬ s∈l) (h:l.any (lt s)=true):a2s lt l s=a2O lt s l:=by
 rw [a2s,if_neg hm,a2O,h];rfl
def b9f {α:Type} [DecidableEq α] {lt:α->α->Bool} {s:α} {l:List α} (hm:¬ s∈l) (h:l.any (lt s)=false):a2s lt l s=a2O lt s l++[s]:=by
 have e:=c7a (a2V h);rw [a2s,if_neg hm,a2O,h,e.1,e.2];rfl
def c2Z {α:Type} (lt:α->α->Bool) (s:α) (t:List α):(a2O lt s t).length<=t.length+1:=by
 unfold a2O;cases t.any (lt s) with
 | false=>simp
 | true=>
   have e:=congrArg List.length (q1W (p:=fun x=>!lt s x) (l:=t));simp only [W6] at e;simp only [W4,W6,W9];omega
def put_len {α:Type} [DecidableEq α] (lt:α->α->Bool) (l:List α) (s:α):(a2s lt l s).length<=l.length+1:=by
 unfold a2s;split
 ·omega
 ·have e:=congrArg List.length (q1W (p:=fun x=>!lt s x) (l:=l));simp only [W6] at e;simp only [W6,W9];omega
def a2e {α:Type} [DecidableEq α] (lt:α->α->Bool):∀ (r l:List α),(s3 lt l r).length<=l.length+r.length:=by
 intro r
 induction r with
 | nil=>intro l;exact V9 _
 | cons a r ih=>
   intro l;have:=ih (a2s lt l a);have:=put_len lt l a;simp only [s3,q2B,W9] at *;omega
def b6z {α:Type} [DecidableEq α] (lt:α->α->Bool) (l r:List α) (x:α):s3 lt l (r++[x])=a2s lt (s3 lt l r) x:=by
 simp [s3,q3T]
def a0j (t:c8):Bool:=!(t.Var==[])
def k6 (l:List c8):List (List UInt8):=(l.filter a0j).map c8.Var
def a5H (l:List c8):List (List UInt8):=s3 sLt [] (k6 l)
def c7e (l:List c8):Lib.compact (a9U sLt (k6 l))=a5H l:=
 a9y u6 (SS.puts u6 SS.nil) fun x=>by rw [a5H,a0p];simp
def a2i (l:List c8):(k6 l).length<=l.length:=b0F _ _ _
def a7R (l:List (List UInt8)) (v:List UInt8):l.contains v=l.any (fun x=>x==v):=by
 rw [List.contains_eq_any_beq];congr 1;funext x;exact Bool.eq_iff_iff.2 ⟨fun h=>by rw [beq_iff_eq] at h ⊢;exact h.symm,fun h=>by rw [beq_iff_eq] at h ⊢;exact h.symm⟩
def k_idxS (l:List (List UInt8)) (v:List UInt8):spZ 106 [(false,[a2B l]),(false,[.s v])] [] (.one (false,[.i .i64 (a4o (fun y=>v==y) l)])):=by
 refine sy' Tryz.func106 (q' 4 [aK 0] (.seq (q' 6 [am 0,aN,aK 0] (.block 0 (.loop (q' 9 [ar 8 7] (.seq (.cond (.t 9) .skip (.exit 0)) (.seq (.block 1 (q' 10 [am 8,aV 5] (q' 11 [aM [1,0,5],aI 1,aL,ao (.bin .eql (.t 11) (.t 15))] (.cond (.t 16) (q' 17 [am 5,aV 4] .ret) .skip)))) (g' 18 [aA 8]))))))) (q' 4 [ao (.mov (.k (.v false [.c (.i .i64 (-1))])))] .ret))) [.t 4] [] ?_;intro hb hE;simp only [go_sem];repeat' first|apply cj'|intro hc|exact om'|fail
 refine lq' false [0,1,7] [] [] (fun i:{i:Nat // i<=l.length/\(l.take i).any (fun y=>v==y)=false}=>[(8,slV (.i .i64 i.1))]) nl' nl' (fun i=>l.length - i.1) (⟨0,by simp⟩) ?_;intro S0 hS0 i;obtain ⟨i,hi,ha⟩:=i;simp only [go_sem,hS0];repeat' first|apply cj'|intro hc|exact om'|fail
 ·exact (a0f (p:=fun y=>v==y) (d:=[]) (by omega) ha hc).symm
 ·exact nx0 ⟨i+1,by omega,t2 (p:=fun y=>v==y) [] (by omega) ha hc⟩
 ·exact (y3 (by rwa [j1 (by omega)] at ha)).symm
noncomputable def b0u:CT:=j7 (fun (x:(List (List UInt8))×(List UInt8))=>k_idxS x.1 x.2)
@[go_sem] def b5W:=fun l v=>nm' (fQ' b0u rfl (l,v))
def k_conS (l:List (List UInt8)) (v:List UInt8):spZ 49 [(false,[a2B l]),(false,[.s v])] [] (.one (false,[.b (l.contains v)])):=by
 refine sy' Tryz.func49 (q' 0 [ab 4 false] (q' 5 [aM [0,1],ac 106 [5,6],ao (.bin .geq (.t 7) (k' 0)),aV 4] .ret)) [.t 4] [(106,[],b0u)] ?_;intro hb hE;simp only [go_sem];repeat' first|apply cj'|intro hc|exact om'|fail
 all_goals (rw [List.contains_eq_any_beq];exact a2a _ _)
noncomputable def c5Y:CT:=j7 (fun (x:(List (List UInt8))×(List UInt8))=>k_conS x.1 x.2)
@[go_sem] def c_conS_eq:=fun l v=>nm' (fQ' c5Y rfl (l,v))
def b5A (l:List (List UInt8)) (v:List UInt8):spZ 159 [(false,[a2B l]),(false,[.s v])] [] (.one (false,[.b (l.contains v)])):=by
 refine sy' Tryz.func159 (q' 0 [ab 4 false] (.seq (q' 7 [am 0,aN,aK 0] (.block 0 (.loop (q' 10 [ar 9 8] (.seq (.cond (.t 10) .skip (.exit 0)) (.seq (.block 1 (q' 11 [ai 1 7 9,aL,aV 6] (q' 13 [aM [6,1],ao (.bin .eql (.t 13) (.t 14))] (.cond (.t 15) (q' 0 [ab 4 true] .ret) .skip)))) (g' 16 [aA 9]))))))) (q' 0 [ab 4 false] .ret))) [.t 4] [] ?_;intro hb hE;simp only [go_sem];repeat' first|apply cj'|intro hc|exact om'|fail
 refine lq' false [1,7,8] [] [] (fun i:{i:Nat // i<=l.length/\(l.take i).any (fun x=>x==v)=false}=>[(9,slV (.i .i64 i.1))]) nl' nl' (fun i=>l.length - i.1) (⟨0,by simp⟩) ?_;intro S0 hS0 i;obtain ⟨i,hi,ha⟩:=i;simp only [go_sem,hS0];repeat' first|apply cj'|intro hc|exact om'|fail
 ·rw [a7R,any_true (d:=[]) (i:=i) (by omega) hc]
 ·exact nx0 ⟨i+1,by omega,t2 [] (by omega) ha hc⟩
 ·rw [a7R,<- ha,j1 (by omega)]
noncomputable def a4n:CT:=j7 (fun (x:(List (List UInt8))×(List UInt8))=>b5A x.1 x.2)
@[go_sem] def c4x:=fun l v=>nm' (fQ' a4n rfl (l,v))
@[go_sem] def a5U:ACode:=q' 4 [ao (.mov (.k (.v false [.nl [.s []]])))] (q' 9 [ao (.bsl 1 0 [.s] []),aV 5] (q' 0 [ab 6 false] (.seq (q' 10 [am 0,aN,aK 0] (.block 0 (.loop (q' 13 [ar 12
 11] (.seq (.cond (.t 13) .skip (.exit 0)) (.seq (.block 1 (q' 14 [ai 1 10 12,aL,aV 8] (.seq (q' 16 [aM [8,1],ao (.bin .eql (.t 16) (.t 17))] (.cond (.t 18)
 (q' 19 [am 0,aV 4] .ret) .skip)) (.seq (q' 20 [am 6,ao (.not (.t 20)),am 21,au (.mov (.t 1)) 22 true,au (.mov (.t 8)) 22 true,au (.bin .lss (.t 23) (.t 24))
 22 true,ao (.pick (.t 22) (.t 25) (bb false))] (.cond (.t 26) (q' 27 [aM [5,1],ao (.bsl 1 1 [.s] [(0,.t 28)]),ao (.app 1 16 [.s] (.t 27) (.t 29)),aV 5] (g' 0
 [ab 6 true])) .skip)) (g' 31 [aM [5,8],ao (.bsl 1 1 [.s] [(0,.t 32)]),ao (.app 1 16 [.s] (.t 31) (.t 33)),aV 5]))))) (g' 35 [aA 12]))))))) (.seq (q' 36 [am
 6,ao (.not (.t 36))] (.cond (.t 37) (g' 38 [aM [5,1],ao (.bsl 1 1 [.s] [(0,.t 39)]),ao (.app 1 16 [.s] (.t 38) (.t 40)),aV 5]) .skip)) (q' 42 [am 5,aV 4]
 .ret)))))
def b5C (l:List (List UInt8)) (s:List UInt8) (hpre:l.length < 1099511627776):spZ 313 [(false,[a2B l]),(false,[.s s])] [] (.one (false,[a2B (a2s sLt l s)])):=by
 refine sx' false true none Tryz.func313 a5U [.t 4] [] ?_;intro hb hE;simp only [go_sem];repeat' first|apply cj'|intro hc|exact om'|fail
 refine lk' false [(false,5,0,100010)] [0,1,10,11] [] [] (fun i:{i:Nat // i<=l.length/\¬ s∈l.take i}=>[(5,.v false [.ow 100010]),(6,slV (.b ((l.take i.1).any (sLt s)))),(12,slV (.i .i64 i.1))]) nl' (fun i=>[(100010,[.s []],(a2O sLt s (l.take i.1)).map z9)]) (fun i=>l.length - i.1) (⟨0,by simp⟩) ?_;intro S0 hS0 i;obtain ⟨i,hi,hm⟩:=i;simp only [go_sem,hS0];repeat' first|apply cj'|intro hc|exact om'|fail
 all_goals have hl:=c2Z sLt s (l.take i)
 all_goals rw [q0O] at hl
 ·have hm2:s∈l:=by
   rw [beq_iff_eq] at hc;have:=t8 (l:=l) [] (i:=i) (by omega);rw [<- hc,this];exact q0S _
  rw [a2s,if_pos hm2]
 ·omega
 ·omega
 ·have hx:=j6 (l:=l) [] (i:=i) (by omega);have hn:¬ s∈l.take (i+1):=by rw [hx];simp only [W7,V5];rintro (h|h);exact hm h;subst h;simp at *
  have h1:(l.take (i+1)).any (sLt s)=true:=by rw [hx,q2F,hc.1,q2X,show sLt s (l.getD i [])=true from hc.2];rfl
  have h2:a2O sLt s (l.take (i+1))=a2O sLt s (l.take i)++[s]++[l.getD i []]:=by rw [hx,c2Y hc.1 hc.2]
  (refine lpK_n2 (⟨i+1,by omega,hn⟩) _ (by simp only [go_sem];try rfl) ?_;simp only [go_sem,hS0]<;>repeat' first|apply V3|exact on'|fail)
  all_goals first|rw [h1]|rw [h2]
 ·omega
 ·have hx:=j6 (l:=l) [] (i:=i) (by omega);have hn:¬ s∈l.take (i+1):=by rw [hx];simp only [W7,V5];rintro (h|h);exact hm h;subst h;simp at *
  have h3:(l.take (i+1)).any (sLt s)=(l.take i).any (sLt s)/\a2O sLt s (l.take (i+1))=a2O sLt s (l.take i)++[l.getD i []]:=by
   rw [hx];cases h:(l.take i).any (sLt s) with
   | true=>exact ⟨by rw [q2F,h];rfl,b9d h⟩
   | false=>
     rw [h] at hc;have hc2:sLt s (l.getD i [])=false:=hc;exact ⟨by rw [q2F,h,q2X,hc2];rfl,c6s h hc2⟩
  (refine lpK_n2 (⟨i+1,by omega,hn⟩) _ (by simp only [go_sem];try rfl) ?_;simp only [go_sem,hS0]<;>repeat' first|apply V3|exact on'|fail)
  all_goals first|rw [h3.1]|rw [h3.2]
 ·omega
 ·rw [j1 (by omega)] at hc hm ⊢;rw [b9f hm hc]
 ·rw [j1 (by omega)] at hc hm ⊢;rw [b9e hm hc]
noncomputable def a7P:CT:=u9 (fun (x:(List (List UInt8))×(List UInt8)) h=>b5C x.1 x.2 h)
@[go_sem] def c4z:=fun l s=>nm' (fP' a7P rfl (l,s))
def b5p (l:List c8) (hpre:l.length < 1099511627776):spZ 229 [(false,[l8 l])] [] (.one (false,[a7U (a5H l)])):=by
 refine sy' Tryz.func229 (q' 2 [ao (.mov (.k (.v false [.nl [.s []]])))] (q' 6 [ao (.bsl 1 0 [.s] []),aV 3] (.seq (q' 7 [am 0,aN,aK 0] (.block 0 (.loop (q' 10 [ar 9 8] (.seq (.cond (.t 10) .skip (.exit 0)) (.seq (.block 1 (q' 11 [ai 3 7 9,aE 3,ax (w' 5 [.s,.i .i64,.s]),aS 3 5 12] (q' 13 [aG 0 5,ao (.bin .neq (.t 14) (.k (.v false [.c (.s [])])))] (.cond (.t 15) (g' 16 [am 3,aG 0 5,ao (.bsl 1 1 [.s] [(0,.t 18)]),ao (.app 1 16 [.s] (.t 16) (.t 19)),aV 3]) .skip)))) (g' 21 [aA 9]))))))) (q' 22 [am 3,ac 230 [22]] (q' 24 [am 3,ac 231 [24],aV 2] .ret))))) [.t 2] [(230,[0],b0z),(231,[0],b3A)] ?_;intro hb hE;simp only [go_sem];repeat' first|apply cj'|intro hc|exact om'|fail
 refine lk' false [(false,3,0,100006)] [7,8] [] [] (fun i:{i:Nat // i<=l.length}=>[(3,.v false [.ow 100006]),(9,slV (.i .i64 i.1))]) nl' (fun i=>[(100006,[.s []],(k6 (l.take i.1)).map z9)]) (fun i=>l.length - i.1) (⟨0,by simp⟩) ?_;intro S0 hS0 i;obtain ⟨i,hi⟩:=i;simp only [go_sem,hS0];repeat' first|apply cj'|intro hc|exact om'|fail
 all_goals have hl:=a2i (l.take i)
 all_goals rw [q0O] at hl
 ·omega
 ·(refine lpK_n2 (⟨i+1,by omega⟩) _ (by simp only [go_sem];try rfl) ?_;simp only [go_sem,hS0]<;>repeat' first|apply V3|exact on'|fail)
  all_goals rw [k6,k6,a8n (p:=a0j) c8.Var default (by omega) (by rw [a0j,hc];rfl)]
 ·(refine lpK_n2 (⟨i+1,by omega⟩) _ (by simp only [go_sem];try rfl) ?_;simp only [go_sem,hS0]<;>repeat' first|apply V3|exact on'|fail)
  all_goals rw [k6,k6,b3S (p:=a0j) c8.Var default (by omega) (by rw [a0j,hc];rfl)]
 ·omega
 ·rw [j1 (by omega),c7e]
noncomputable def a4l:CT:=u9 (fun (x:(List c8)) h=>b5p x h)
@[go_sem] def c4n:=fun l=>nm' (fP' a4l rfl l)
@[go_sem] def a4q:ACode:=q' 4 [ao (.mov (.k (.v false [.nl [.s []]])))] (.seq (q' 7 [am 1,aN,aK 0] (.block 0 (.loop (q' 10 [ar 9 8] (.seq (.cond (.t 10) .skip (.exit 0)) (.seq (.block 1
 (q' 11 [ai 3 7 9,aE 3,ax (w' 6 [.s,.i .i64,.s]),aS 3 6 12] (q' 13 [aG 0 6,ao (.bin .neq (.t 14) (.k (.v false [.c (.s [])])))] (.cond (.t 15) (g' 16 [am
 0,aG 0 6,ac 313 [16,18],aV 0]) .skip)))) (g' 20 [aA 9]))))))) (q' 21 [am 0,aV 4] .ret))
def b2x (a:List (List UInt8)) (l:List c8) (hpre:a.length+l.length < 1099511627776):spZ 250 [(false,[a2B a]),(false,[l8 l])] [] (.one (false,[a2B (s3 sLt a (k6 l))])):=by
 refine sx' false true none Tryz.func250 a4q [.t 4] [(313,[],a7P)] ?_;intro hb hE;simp only [go_sem];repeat' first|apply cj'|intro hc|exact om'|fail
 refine lq' false [7,8] [] [] (fun i:{i:Nat // i<=l.length}=>[(0,.v false [.c (a2B (s3 sLt a (k6 (l.take i.1))))]),(9,slV (.i .i64 i.1))]) nl' nl' (fun i=>l.length - i.1) (⟨0,by simp⟩) ?_;intro S0 hS0 i;obtain ⟨i,hi⟩:=i;simp only [go_sem,hS0];repeat' first|apply cj'|intro hc|exact om'|fail
 all_goals have hl:=a2i (l.take i)
 all_goals have hl2:=a2e sLt (k6 (l.take i)) a
 all_goals rw [q0O] at hl
 ·omega
 ·(refine lpK_n2 (⟨i+1,by omega⟩) _ rfl ?_;simp only [go_sem,hS0]<;>repeat' first|apply V3|exact on'|fail)
  all_goals rw [show k6 (l.take (i+1))=k6 (l.take i)++[(l.getD i default).Var] by rw [k6,k6,a8n (p:=a0j) c8.Var default (by omega) (by rw [a0j,hc];rfl)],b6z]
 ·(refine lpK_n2 (⟨i+1,by omega⟩) _ rfl ?_;simp only [go_sem,hS0]<;>repeat' first|apply V3|exact on'|fail)
  all_goals rw [show k6 (l.take (i+1))=k6 (l.take i) by rw [k6,k6,b3S (p:=a0j) c8.Var default (by omega) (by rw [a0j,hc];rfl)]]
 ·rw [j1 (by omega)]
noncomputable def a1s:CT:=u9 (fun (x:(List (List UInt8))×(List c8)) h=>b2x x.1 x.2 h)
@[go_sem] def a3w:=fun a l=>nm' (fP' a1s rfl (a,l))
def a5D (l:c7):Bool:=l.Kind==3&&l.Op==1
inductive Bd (r:c6):List UInt8->Prop
 | base {l:c7} {t:c8}:l∈r.Body->(l.Kind==1)=true->t∈l.Atom.Args->a0j t=true->Bd r t.Var
 | leftV {l:c7}:l∈r.Body->a5D l=true->a0j l.A=true->a0j l.B=false->Bd r l.A.Var
 | leftB {l:c7}:l∈r.Body->a5D l=true->a0j l.A=true->Bd r l.B.Var->Bd r l.A.Var
 | rightV {l:c7}:l∈r.Body->a5D l=true->a0j l.B=true->a0j l.A=false->Bd r l.B.Var
 | rightB {l:c7}:l∈r.Body->a5D l=true->a0j l.B=true->Bd r l.A.Var->Bd r l.B.Var
def z8 (out:List (List UInt8)) (t:c8):Bool:=t.Var==[] || out.contains t.Var
def a0i (out:List (List UInt8)) (l:c7):Prop:=a5D l=true->(z8 out l.A || z8 out l.B)=true->∀ x∈k6 [l.A,l.B],x∈out
def a3f (r:c6) (out:List (List UInt8)):Prop:=∀ l∈r.Body,(l.Kind==1)=true->∀ x∈k6 l.Atom.Args,x∈out
def a0B {l:List c8} {x:List UInt8}:x∈k6 l↔∃ t∈l,a0j t=true/\t.Var=x:=by
 simp only [k6,q1H,q1Q,and_assoc]
def Bd.mem {r:c6} {out:List (List UInt8)} (hb:a3f r out) (hc:∀ l∈r.Body,a0i out l) {v:List UInt8} (h:Bd r v):v∈out:=by
 induction h with
 | base hl hk ht hv=>exact hb _ hl hk _ (a0B.2 ⟨_,ht,hv,rfl⟩)
 | leftV hl he hv hn=>
   refine hc _ hl he ?_ _ (a0B.2 ⟨_,by simp,hv,rfl⟩);simp only [a0j,q2E] at hn;simp [z8,hn]
 | leftB hl he hv _ ih=>
   refine hc _ hl he ?_ _ (a0B.2 ⟨_,by simp,hv,rfl⟩);simp [z8,ih]
 | rightV hl he hv hn=>
   refine hc _ hl he ?_ _ (a0B.2 ⟨_,q2O _ (V5.2 rfl),hv,rfl⟩);simp only [a0j,q2E] at hn;simp [z8,hn]
 | rightB hl he hv _ ih=>
   refine hc _ hl he ?_ _ (a0B.2 ⟨_,q2O _ (V5.2 rfl),hv,rfl⟩);simp [z8,ih]
def b0t (r:c6):List (List UInt8):=r.Body.flatMap fun l=>k6 l.Atom.Args++k6 [l.A,l.B]
def Bd.all {r:c6} {v:List UInt8} (h:Bd r v):v∈b0t r:=by
 have hm:∀ {l:c7} {x:List UInt8},l∈r.Body->(x∈k6 l.Atom.Args\/x∈k6 [l.A,l.B])->x∈b0t r:=fun hl hx=>q3B.2 ⟨_,hl,W7.2 hx⟩
 cases h with
 | base hl hk ht hv=>exact hm hl (.inl (a0B.2 ⟨_,ht,hv,rfl⟩))
 | leftV hl he hv hn=>exact hm hl (.inr (a0B.2 ⟨_,by simp,hv,rfl⟩))
 | leftB hl he hv hn=>exact hm hl (.inr (a0B.2 ⟨_,by simp,hv,rfl⟩))
 | rightV hl he hv hn=>exact hm hl (.inr (a0B.2 ⟨_,q2O _ (V5.2 rfl),hv,rfl⟩))
 | rightB hl he hv hn=>exact hm hl (.inr (a0B.2 ⟨_,q2O _ (V5.2 rfl),hv,rfl⟩))
open Classical in
noncomputable def a1O (r:c6):List (List UInt8):=(s3 sLt [] (b0t r)).filter fun v=>decide (Bd r v)
def b5T (r:c6):SS sLt (a1O r):=SS.filter (SS.puts u6 SS.nil) _
open Classical in
def a5l {r:c6} {v:List UInt8}:v∈a1O r↔Bd r v:=by
 rw [a1O,q1Q,a0p,V2];exact ⟨fun h=>h.2,fun h=>⟨.inr h.all,h⟩⟩
def c1c {r:c6} {out:List (List UInt8)} (hs:SS sLt out) (hB:∀ v∈out,Bd r v) (hb:a3f r out) (hc:∀ l∈r.Body,a0i out l):out=a1O r:=
 SS.uniq u6 hs (b5T r) fun x=>⟨fun h=>a5l.2 (hB x h),fun h=>(a5l.1 h).mem hb hc⟩
def c1b {r:c6} {out:List (List UInt8)} (hB:∀ v∈out,Bd r v) (hb:a3f r out) (hc:∀ l∈r.Body,a0i out l):Lib.compact (a9U sLt out)=a1O r:=
 a9y u6 (b5T r) fun x=>⟨fun h=>(a5l.1 h).mem hb hc,fun h=>a5l.2 (hB x h)⟩
def c6N {α:Type} [DecidableEq α] {lt:α->α->Bool} {l:List α} {s:α} (h:(a2s lt l s).length=l.length):s∈l:=by
 unfold a2s at h;split at h
 ·assumption
 ·have e:=congrArg List.length (q1W (p:=fun x=>!lt s x) (l:=l));simp only [W6,W9] at e h;omega
def c6M {α:Type} [DecidableEq α] (lt:α->α->Bool) (l:List α) (s:α):l.length<=(a2s lt l s).length:=by
 unfold a2s;split
 ·omega
 ·have e:=congrArg List.length (q1W (p:=fun x=>!lt s x) (l:=l));simp only [W6,W9] at e ⊢;omega
def c3l {α:Type} [DecidableEq α] (lt:α->α->Bool):∀ (r l:List α),l.length<=(s3 lt l r).length:=by
 intro r
 induction r with
 | nil=>intro l;exact V9 _
 | cons a r ih=>
   intro l;have:=ih (a2s lt l a);have:=c6M lt l a;simp only [s3,q2B] at *;omega
def c4U {α:Type} [DecidableEq α] {lt:α->α->Bool}:∀ {r l:List α},(s3 lt l r).length=l.length->s3 lt l r=l/\∀ x∈r,x∈l:=by
 intro r
 induction r with
 | nil=>intro l _;exact ⟨rfl,by simp⟩
 | cons a r ih=>
   intro l h;have h1:=c3l lt r (a2s lt l a);have h2:=c6M lt l a;simp only [s3,q2B] at h h1;have ha:a∈l:=c6N (lt:=lt) (by omega);have e:a2s lt l a=l:=by rw [a2s,if_pos ha]
   rw [e] at h;have h3:=ih (l:=l) h;simp only [s3,q2B,e];refine ⟨h3.1,fun x hx=>?_⟩;rcases V6.1 hx with rfl|hx
   ·exact ha
   ·exact h3.2 x hx
def a9d {r:c6} (h:k7 r=true):(b0t r).length<=64:=by
 have h8:r.Body.length<=8:=by
  simp only [k7,W3,V2] at h;omega
 have ha:∀ l∈r.Body,(k6 l.Atom.Args++k6 [l.A,l.B]).length<=8:=by
  intro l hl;simp only [k7,W3,q0P] at h;have hb:=h.2 l hl;have h1:=a2i l.Atom.Args;have h2:=a2i [l.A,l.B];have h6:l.Atom.Args.length<=6:=by
   rw [a1B] at hb;cases hk:(l.Kind==3)<;>rw [hk] at hb<;>simp only [W4,W2,W3,V2,beq_iff_eq,a1C] at hb<;>omega
  simp only [W6,W9,q0H] at *;omega
 unfold b0t
 revert ha h8
 generalize r.Body=b;intro h8 ha;have:∀ b:List c7,(∀ l∈b,(k6 l.Atom.Args++k6 [l.A,l.B]).length<=8)->(b.flatMap fun l=>k6 l.Atom.Args++k6 [l.A,l.B]).length<=8 * b.length:=by
  intro b
  induction b with
  | nil=>intro _;simp
  | cons x b ih=>
    intro hb;have h1:=hb x (by simp);have h2:=ih fun l hl=>hb l (by simp [hl])
    simp only [q2J,W6,W9] at *;omega
 have:=this b ha;omega
def b2w (l:List (List UInt8)) (s:List UInt8) (hpre:l.length < 1099511627776):spZ 313 [(false,[a7U l]),(false,[.s s])] [] (.one (false,[a7U (a2s sLt l s)])):=by
 refine sy' Tryz.func313 a5U [.t 4] [] ?_;intro hb hE;simp only [go_sem];repeat' first|apply cj'|intro hc|exact om'|fail
 refine lk' false [(false,5,0,100010)] [0,1,10,11] [] [1] (fun i:{i:Nat // i<=l.length/\¬ s∈l.take i}=>[(5,.v false [.ow 100010]),(6,slV (.b ((l.take i.1).any (sLt s)))),(12,slV (.i .i64 i.1))]) nl' (fun i=>[(100010,[.s []],(a2O sLt s (l.take i.1)).map z9)]) (fun i=>l.length - i.1) (⟨0,by simp⟩) ?_;intro S0 hS0 i;obtain ⟨i,hi,hm⟩:=i;simp only [go_sem,hS0];repeat' first|apply cj'|intro hc|exact om'|fail
 all_goals have hl:=c2Z sLt s (l.take i)
 all_goals rw [q0O] at hl
 ·have hm2:s∈l:=by
   rw [beq_iff_eq] at hc;have:=t8 (l:=l) [] (i:=i) (by omega);rw [<- hc,this];exact q0S _
  rw [a2s,if_pos hm2]
 ·omega
 ·omega
 ·have hx:=j6 (l:=l) [] (i:=i) (by omega);have hn:¬ s∈l.take (i+1):=by rw [hx];simp only [W7,V5];rintro (h|h);exact hm h;subst h;simp at *
  have h1:(l.take (i+1)).any (sLt s)=true:=by rw [hx,q2F,hc.1,q2X,show sLt s (l.getD i [])=true from hc.2];rfl
  have h2:a2O sLt s (l.take (i+1))=a2O sLt s (l.take i)++[s]++[l.getD i []]:=by rw [hx,c2Y hc.1 hc.2]
  (refine lpK_n2 (⟨i+1,by omega,hn⟩) _ (by simp only [go_sem];try rfl) ?_;simp only [go_sem,hS0]<;>repeat' first|apply V3|exact on'|fail)
  all_goals first|rw [h1]|rw [h2]
 ·omega
 ·have hx:=j6 (l:=l) [] (i:=i) (by omega);have hn:¬ s∈l.take (i+1):=by rw [hx];simp only [W7,V5];rintro (h|h);exact hm h;subst h;simp at *
  have h3:(l.take (i+1)).any (sLt s)=(l.take i).any (sLt s)/\a2O sLt s (l.take (i+1))=a2O sLt s (l.take i)++[l.getD i []]:=by
   rw [hx];cases h:(l.take i).any (sLt s) with
   | true=>exact ⟨by rw [q2F,h];rfl,b9d h⟩
   | false=>
     rw [h] at hc;have hc2:sLt s (l.getD i [])=false:=hc;exact ⟨by rw [q2F,h,q2X,hc2];rfl,c6s h hc2⟩
  (refine lpK_n2 (⟨i+1,by omega,hn⟩) _ (by simp only [go_sem];try rfl) ?_;simp only [go_sem,hS0]<;>repeat' first|apply V3|exact on'|fail)
  all_goals first|rw [h3.1]|rw [h3.2]
 ·omega
 ·rw [j1 (by omega)] at hc hm ⊢;rw [b9f hm hc]
 ·rw [j1 (by omega)] at hc hm ⊢;rw [b9e hm hc]
noncomputable def a5y:CT:=u9 (fun (x:(List (List UInt8))×(List UInt8)) h=>b2w x.1 x.2 h)
@[go_sem] def c1q:=fun l s=>nm' (fP' a5y rfl (l,s))
def a9N (a:List (List UInt8)) (l:List c8) (hpre:a.length+l.length < 1099511627776):spZ 250 [(false,[a7U a]),(false,[l8 l])] [] (.one (false,[a7U (s3 sLt a (k6 l))])):=by
 refine sy' Tryz.func250 a4q [.t 4] [(313,[0],a5y)] ?_;intro hb hE;simp only [go_sem];repeat' first|apply cj'|intro hc|exact om'|fail
 refine lk' false [(false,0,0,100000)] [7,8] [] [] (fun i:{i:Nat // i<=l.length}=>[(0,.v false [.ow 100000]),(9,slV (.i .i64 i.1))]) nl' (fun i=>[(100000,[.s []],(s3 sLt a (k6 (l.take i.1))).map z9)]) (fun i=>l.length - i.1) (⟨0,by simp⟩) ?_;intro S0 hS0 i;obtain ⟨i,hi⟩:=i;simp only [go_sem,hS0];repeat' first|apply cj'|intro hc|exact om'|fail
 all_goals have hl:=a2i (l.take i)
 all_goals have hl2:=a2e sLt (k6 (l.take i)) a
 all_goals rw [q0O] at hl
 ·omega
 ·(refine lpK_n2 (⟨i+1,by omega⟩) _ (by simp only [go_sem];try rfl) ?_;simp only [go_sem,hS0]<;>repeat' first|apply V3|exact on'|fail)
  all_goals rw [show k6 (l.take (i+1))=k6 (l.take i)++[(l.getD i default).Var] by rw [k6,k6,a8n (p:=a0j) c8.Var default (by omega) (by rw [a0j,hc];rfl)],b6z]
 ·(refine lpK_n2 (⟨i+1,by omega⟩) _ (by simp only [go_sem];try rfl) ?_;simp only [go_sem,hS0]<;>repeat' first|apply V3|exact on'|fail)
  all_goals rw [show k6 (l.take (i+1))=k6 (l.take i) by rw [k6,k6,b3S (p:=a0j) c8.Var default (by omega) (by rw [a0j,hc];rfl)]]
 ·rw [j1 (by omega)]
noncomputable def a1W:CT:=u9 (fun (x:(List (List UInt8))×(List c8)) h=>a9N x.1 x.2 h)
@[go_sem] def a6x:=fun a l=>nm' (fP' a1W rfl (a,l))
@[go_sem] def l16T_pair (a:List (List UInt8)) (v1:List UInt8) (n1:Int) (s1 v2:List UInt8) (n2:Int) (s2:List UInt8):a1W [(false,[a7U a]),(false,[.sl false j5 [[.s v1,.i .i64 n1,.s s1],[.s v2,.i .i64 n2,.s s2]]])]=some (a.length+2 < 1099511627776,[],.one (false,[a7U (s3 sLt a (k6 [⟨v1,⟨n1,s1⟩⟩,⟨v2,⟨n2,s2⟩⟩]))])):=a6x a [⟨v1,⟨n1,s1⟩⟩,⟨v2,⟨n2,s2⟩⟩]
def b2B (w:List (List UInt8)) (t:c8):spZ 251 [(false,[a2B w]),(true,[.s t.Var,.i .i64 t.Val.N,.s t.Val.S])] [] (.one (false,[.b (z8 w t)])):=by
 refine sy' Tryz.func251 (q' 0 [ax (o' 3 (.box 3 (.t 1))),ab 4 false] (q' 5 [aG 0 3,ao (.bin .eql (.t 6) (.k (.v false [.c (.s [])]))),am 7,au (.mov (.t 0)) 8 false,au (.fa 0 (.t 3)) 8 false,au (.ld false 1 (.t 10)) 8 false,au (.call 159 [.t 9,.t 11]) 8 false,ao (.pick (.t 8) (bb true) (.t 12)),aV 4] .ret)) [.t 4] [(159,[],a4n)] ?_;intro hb hE;simp only [go_sem];repeat' first|apply cj'|intro hc|exact om'|fail
 all_goals rfl
noncomputable def a5C:CT:=j7 (fun (x:(List (List UInt8))×c8)=>b2B x.1 x.2)
@[go_sem] def c1u:=fun w x0 x1 x2=>nm' (fQ' a5C rfl (w,⟨x0,⟨x1,x2⟩⟩))
def ss_len {out l:List (List UInt8)} (hs:SS sLt out) (h:∀ v∈out,v∈l):out.length<=l.length:=by
 have e:out=(s3 sLt [] l).filter (fun v=>out.contains v):=SS.uniq u6 hs (SS.filter (SS.puts u6 SS.nil) _) fun x=>⟨fun hx=>q1Q.2 ⟨a0p.2 (.inr (h x hx)),by simpa using hx⟩,fun hx=>by simpa using (q1Q.1 hx).2⟩
 have e1:=congrArg List.length e;have e2:=q2D (fun v=>out.contains v) (s3 sLt [] l);have e3:=a2e sLt l [];simp only [q0H] at e3;omega
def c0Z {r:c6} (h:k7 r=true) {out:List (List UInt8)} (hs:SS sLt out) (hB:∀ v∈out,Bd r v):out.length<=64:=
 q1S (ss_len hs fun v hv=>(hB v hv).all) (a9d h)
def a4X {r:c6} (h:k7 r=true) {l:c7} (hl:l∈r.Body):l.Atom.Args.length<=6:=by
 simp only [k7,W3,q0P] at h;have hb:=h.2 l hl;rw [a1B] at hb;cases hk:(l.Kind==3)<;>rw [hk] at hb<;>simp only [W4,W2,W3,V2,beq_iff_eq,a1C] at hb<;>omega
def c2h {r:c6} {l:c7} (hl:l∈r.Body) (hk:(l.Kind==1)=true) {x:List UInt8} (hx:x∈k6 l.Atom.Args):Bd r x:=by
 obtain ⟨t,ht,hv,rfl⟩:=a0B.1 hx;exact Bd.base hl hk ht hv
def bd_step {r:c6} {l:c7} (hl:l∈r.Body) (he:a5D l=true) {out:List (List UInt8)} (hB:∀ v∈out,Bd r v) (hk:(z8 out l.A || z8 out l.B)=true) {x:List UInt8} (hx:x∈k6 [l.A,l.B]):Bd r x:=by
 obtain ⟨t,ht,hv,rfl⟩:=a0B.1 hx;have hA:z8 out l.A=true->a0j l.A=false\/Bd r l.A.Var:=by
  intro h;simp only [z8,q1L,q2T] at h;rcases h with h|h
  ·exact .inl (by simp [a0j,h])
  ·exact .inr (hB _ h)
 have hBB:z8 out l.B=true->a0j l.B=false\/Bd r l.B.Var:=by
  intro h;simp only [z8,q1L,q2T] at h;rcases h with h|h
  ·exact .inl (by simp [a0j,h])
  ·exact .inr (hB _ h)
 simp only [q1L] at hk;simp only [V6,q3X,or_false] at ht;rcases ht with rfl|rfl
 ·rcases hk with h|h
  ·rcases hA h with h|h
   ·rw [h] at hv;cases hv
   ·exact h
  ·rcases hBB h with h|h
   ·exact Bd.leftV hl he hv h
   ·exact Bd.leftB hl he hv h
 ·rcases hk with h|h
  ·rcases hA h with h|h
   ·exact Bd.rightV hl he hv h
   ·exact Bd.rightB hl he hv h
  ·rcases hBB h with h|h
   ·rw [h] at hv;cases hv
   ·exact h
def b0N (r:c6):spZ 157 [(true,[.i .i64 r.Kind,.s r.Head.Name,l8 r.Head.Args,a0R r.Body])] [] (.one (false,[a2B (bif k7 r then a1O r else [])])):=by
 refine sx' false true none Tryz.func157 (q' 1 [ao (.box 4 (.t 0)),ao (.mov (.k (.v false [.nl [.s []]])))] (q' 8 [ao (.bsl 1 0 [.s] []),aV 3] (.seq (q' 9 [ae 4 1,ac 73 [9],ao (.not (.t 10))] (.cond (.t 11) (q' 12 [am 3,aV 2] .ret) .skip)) (.seq (q' 13 [aG 3 1,aN,aK 0] (.block 0 (.loop (q' 17 [ar 16 15] (.seq (.cond (.t 17) .skip (.exit 0)) (.seq (.block 1 (q' 18 [am 16,aV 4] (q' 19 [aG 3 1,am 4,aI 10,aG 0 22,ao (.bin .eql (.t 24) (k' 1))] (.cond (.t 25) (g' 26 [am 3,aG 3 1,am 4,aI 10,aF 1,aG 1 31,ac 250 [26,33],aV 3]) .skip)))) (g' 35 [aA 16]))))))) (.seq (q' 5 [ao (.mov (.k (.v false [.c (.i .i64 (-1))])))] (.block 2 (.loop (.seq (q' 36 [aM [5,3],aN,ar 36 38] (.cond (.t 39) .skip (.exit 2))) (.block 3 (q' 40 [am 3,aN,aV 5] (q' 42 [aG 3 1,aN,aK 0] (.block 4 (.loop (q' 46 [ar 45 44] (.seq (.cond (.t 46) .skip (.exit 4)) (.seq (.block 5 (q' 47 [am 45,aV 6] (q' 48 [aG 3 1,am 6,aI 10,aE 10,ax (w' 7 [.i .i64,.s,.sl j5,.i .i64,.s,.i .i64,.s, .s,.i .i64,.s]),aS 10 7 52] (q' 53 [aG 0 7,ao (.bin .eql (.t 54) (k' 3)),am 55,au (.fa 3 (.t 7)) 56 true,au (.ld false 1 (.t 57)) 56 true,au (.bin .eql (.t 58) (k' 1)) 56 true,ao (.pick (.t 56) (.t 59) (bb false)),am 60,au (.mov (.t 3)) 61 true,au (.fa 4 (.t 7)) 61 true,au (.ld true 3 (.t 63)) 61 true,au (.call 251 [.t 62,.t 64]) 61 true,au (.mov (.t 65)) 61 true,au (.mov (.t 3)) 66 false,au (.fa 7 (.t 7)) 66 false,au (.ld true 3 (.t 68)) 66 false,au (.call 251 [.t 67,.t 69]) 66 false,au (.pick (.t 66) (bb true) (.t 70)) 61 true,ao (.pick (.t 61) (.t 71) (bb false))] (.cond (.t 72) (g' 73 [am 3,af 4 7,aE 3,af 7 7,aE 3,ao (.bsl 3 2 [.s,.i .i64,.s] [(0,.t 75),(1,.t 77)]),ac 250 [73,78],aV 3]) .skip))))) (g' 80 [aA 45]))))))))))))) (q' 81 [am 3,aV 2] .ret)))))) [.t 2] [(73,[],a0z),(250,[0],a1W),(251,[],a5C)] ?_;intro hb hE;simp only [go_sem];repeat' first|apply cj'|intro hc|exact om'|fail
 ·rw [hc];rfl
 have hR:k7 r=true:=hc;have hb8:r.Body.length<=8:=by
  simp only [k7,W3,V2] at hR;omega
 rw [hR];clear hc;refine lk' false [(false,3,0,100006)] [1,15] [2] [] (fun i:{p:Nat×List (List UInt8) // p.1<=r.Body.length/\SS sLt p.2/\(∀ v∈p.2,Bd r v)/\∀ l∈r.Body.take p.1,(l.Kind==1)=true->∀ x∈k6 l.Atom.Args,x∈p.2}=>[(3,.v false [.ow 100006]),(16,slV (.i .i64 i.1.1))]) nl' (fun i=>[(100006,[.s []],i.1.2.map z9)]) (fun i=>r.Body.length - i.1.1) (⟨(0,[]),by simp,SS.nil,by simp,by simp⟩) ?_;intro S0 hS0 i;obtain ⟨⟨i,o⟩,hi,hs,hB,hI⟩:=i;simp only at hi hs hB hI;have hlen:=c0Z hR hs hB;simp only [go_sem,hS0];repeat' first|apply cj'|intro hc|exact om'|fail
 ·have:=a4X hR (l:=r.Body.getD i default) (by rw [t8 default (by omega)];exact q0S _);omega
 ·have hm:r.Body.getD i default∈r.Body:=by rw [t8 default (by omega)];exact q0S _
  have h2:∀ v∈s3 sLt o (k6 (r.Body.getD i default).Atom.Args),Bd r v:=fun v hv=>(a0p.1 hv).elim (hB v) (c2h hm hc)
  have h3:∀ l∈r.Body.take (i+1),(l.Kind==1)=true->∀ x∈k6 l.Atom.Args,x∈s3 sLt o (k6 (r.Body.getD i default).Atom.Args):=by
   intro l hl hk x hx;rw [j6 default (by omega),W7,V5] at hl;rcases hl with hl|rfl
   ·exact a0p.2 (.inl (hI l hl hk x hx))
   ·exact a0p.2 (.inr hx)
  exact nk0 ⟨(i+1,s3 sLt o (k6 (r.Body.getD i default).Atom.Args)),by simp only;omega,SS.puts u6 hs,h2,h3⟩
 ·have h3:∀ l∈r.Body.take (i+1),(l.Kind==1)=true->∀ x∈k6 l.Atom.Args,x∈o:=by
   intro l hl hk x hx;rw [j6 default (by omega),W7,V5] at hl;rcases hl with hl|rfl
   ·exact hI l hl hk x hx
   ·rw [hc] at hk;cases hk
  exact nk0 ⟨(i+1,o),by simp only;omega,hs,hB,h3⟩
 rw [j1 (by omega)] at hI;clear hc hi;refine lk' false [(false,3,0,100006)] [1] [2] [] (fun i:{p:Int×List (List UInt8) // -1<=p.1/\p.1<=p.2.length/\SS sLt p.2/\(∀ v∈p.2,Bd r v)/\a3f r p.2/\(p.1=p.2.length->∀ l∈r.Body,a0i p.2 l)}=>[(3,.v false [.ow 100006]),(5,slV (.i .i64 i.1.1))]) nl' (fun i=>[(100006,[.s []],i.1.2.map z9)]) (fun i=>(64 - i.1.1).toNat) (⟨(-1,o),by simp,by simp only;omega,hs,hB,hI,by intro h;simp only at h;omega⟩) ?_;intro S1 hS1 i;obtain ⟨⟨n,o1⟩,hn0,hn,hs1,hB1,hI1,hC1⟩:=i;simp only at hn0 hn hs1 hB1 hI1 hC1;have hlen1:=c0Z hR hs1 hB1;simp only [go_sem,hS0,hS1];repeat' first|apply cj'|intro hc|exact om'|fail
 ·skip
  refine lk' false [(false,3,0,100006)] [1,5,44] [2] [] (fun i:{p:Nat×List (List UInt8) // p.1<=r.Body.length/\SS sLt p.2/\(∀ v∈p.2,Bd r v)/\a3f r p.2/\o1.length<=p.2.length/\(p.2.length=o1.length->∀ l∈r.Body.take p.1,a0i p.2 l)}=>[(3,.v false [.ow 100006]),(45,slV (.i .i64 i.1.1))]) nl' (fun i=>[(100006,[.s []],i.1.2.map z9)]) (fun i=>r.Body.length - i.1.1) (⟨(0,o1),by simp,hs1,hB1,hI1,by simp,by simp⟩) ?_;intro S2 hS2 i;obtain ⟨⟨i,o2⟩,hi,hs2,hB2,hI2,hge,hC2⟩:=i;simp only at hi hs2 hB2 hI2 hge hC2;have hlen2:=c0Z hR hs2 hB2;simp only [go_sem,hS0,hS1,hS2];repeat' first|apply cj'|intro hc|exact om'|fail
  ·have hm:r.Body.getD i default∈r.Body:=by rw [t8 default (by omega)];exact q0S _
   have he:a5D (r.Body.getD i default)=true:=by rw [a5D,hc.1.1,hc.1.2];rfl
   have hk:(z8 o2 (r.Body.getD i default).A || z8 o2 (r.Body.getD i default).B)=true:=by rw [q1L];exact hc.2
   have hg:=c3l sLt (k6 [(r.Body.getD i default).A,(r.Body.getD i default).B]) o2;have h2:∀ v∈s3 sLt o2 (k6 [(r.Body.getD i default).A,(r.Body.getD i default).B]),Bd r v:=fun v hv=>(a0p.1 hv).elim (hB2 v) (bd_step hm he hB2 hk)
   have h3:a3f r (s3 sLt o2 (k6 [(r.Body.getD i default).A,(r.Body.getD i default).B])):=fun l hl hk x hx=>a0p.2 (.inl (hI2 l hl hk x hx))
   have h4:(s3 sLt o2 (k6 [(r.Body.getD i default).A,(r.Body.getD i default).B])).length=o1.length->∀ l∈r.Body.take (i+1),a0i (s3 sLt o2 (k6 [(r.Body.getD i default).A,(r.Body.getD i default).B])) l:=by
    intro hq l hl;have hs3:=c4U (lt:=sLt) (r:=k6 [(r.Body.getD i default).A,(r.Body.getD i default).B]) (l:=o2) (by omega);rw [hs3.1];rw [j6 default (by omega),W7,V5] at hl;rcases hl with hl|rfl
    ·exact hC2 (by omega) l hl
    ·exact fun _ _=>hs3.2
   (refine lpK_n2 (⟨(i+1,s3 sLt o2 (k6 [(r.Body.getD i default).A,(r.Body.getD i default).B])),by simp only;omega,SS.puts u6 hs2,h2,h3,by simp only;omega,h4⟩) _ (by simp only [go_sem,hS0,hS1];try rfl) ?_;simp only [go_sem,hS0,hS1,hS2]<;>repeat' first|apply V3|exact on'|fail)
  ·have h4:o2.length=o1.length->∀ l∈r.Body.take (i+1),a0i o2 l:=by
    intro hq l hl;rw [j6 default (by omega),W7,V5] at hl;rcases hl with hl|rfl
    ·exact hC2 hq l hl
    ·intro h5 h6;rw [a5D] at h5;rw [h5,h6] at hc;cases hc
   (refine lpK_n2 (⟨(i+1,o2),by simp only;omega,hs2,hB2,hI2,hge,h4⟩) _ (by simp only [go_sem,hS0,hS1];try rfl) ?_;simp only [go_sem,hS0,hS1,hS2]<;>repeat' first|apply V3|exact on'|fail)
  ·have h4:(o1.length:Int)=o2.length->∀ l∈r.Body,a0i o2 l:=by
    intro hq l hl;rw [j1 (by omega)] at hC2;exact hC2 (by omega) l hl
   (refine lpK_n2 (⟨((o1.length:Int),o2),by simp only;omega,by simp only;omega,hs2,hB2,hI2,h4⟩) _ (by simp only [go_sem,hS0,hS1];try rfl) ?_;simp only [go_sem,hS0,hS1,hS2]<;>repeat' first|apply V3|exact on'|fail)
 ·rw [c1c hs1 hB1 hI1 (hC1 (by omega))]<;>rfl
noncomputable def a4z:CT:=j7 (fun (x:c6)=>b0N x)
@[go_sem] def c0g:=fun x0 x1 x2 x3=>nm' (fQ' a4z rfl ⟨x0,⟨x1,x2⟩,x3⟩)
def a6K (r:c6) (out:List (List UInt8)):Nat:=((b0t r).filter fun v=>!out.contains v).length
def miss_le (r:c6) (out:List (List UInt8)):a6K r out<=(b0t r).length:=q2D _ _
def b6j {α:Type} {p q:α->Bool}:∀ {l:List α},(∀ x,q x=true->p x=true)->(∃ x∈l,p x=true/\q x=false)->(l.filter q).length < (l.filter p).length
 | [],_,h=>by obtain ⟨x,hx,_⟩:=h;simp at hx
 | a::l,hpq,h=>by
   have hle:(l.filter q).length<=(l.filter p).length:=by
    clear h
    induction l with
    | nil=>simp
    | cons b l ih=>
      have:=hpq b;cases hq:q b<;>cases hp:p b<;>simp_all<;>omega
   obtain ⟨x,hx,h1,h2⟩:=h;rcases V6.1 hx with rfl|hx
   ·simp only [List.filter_cons,h1,h2,if_true,q1J,if_false,W9];omega
   ·have ih:=b6j (l:=l) hpq ⟨x,hx,h1,h2⟩;have:=hpq a;cases hq:q a<;>cases hp:p a<;>simp_all<;>omega
def miss_lt {r:c6} {out:List (List UInt8)} {v:List UInt8} (hv:v∈b0t r) (hn:out.contains v=false):a6K r (out++[v]) < a6K r out:=by
 refine b6j (fun x hx=>?_) ⟨v,hv,by rw [hn];rfl,by simp⟩;simp only [q0V,List.contains_eq_mem,W7,q2N,not_or] at hx ⊢;exact hx.1
def b6K (l:List c8):(a5H l).length<=l.length:=by
 have h1:=a2e sLt (k6 l) [];have h2:=a2i l;simp only [q0H] at h1;unfold a5H;omega
def b6r {l:List c8} {x:List UInt8}:x∈a5H l↔x∈k6 l:=by
 rw [a5H,a0p];simp
def c4C {o:List (List UInt8)} {l:c7} (h0:z8 o l.B=true->a0j l.A=true->l.A.Var∈o) (h1:z8 o l.A=true->a0j l.B=true->l.B.Var∈o):a0i o l:=by
 intro _ hk x hx;obtain ⟨t,ht,hv,rfl⟩:=a0B.1 hx;have hs:∀ t:c8,a0j t=true->z8 o t=true->t.Var∈o:=by
  intro t hv h;simp only [z8,q1L,q2T] at h;rcases h with h|h
  ·simp [a0j,h] at hv
  ·exact h
 simp only [V6,q3X,or_false] at ht;rw [q1L] at hk;rcases ht with rfl|rfl
 ·rcases hk with h|h
  ·exact hs _ hv h
  ·exact h0 h hv
 ·rcases hk with h|h
  ·exact h1 h hv
  ·exact hs _ hv h
def b8v {r:c6} (hV:(b0t r).length<=64) {o1 o3:List (List UInt8)} {g3:Bool} {v:List UInt8} (hl:o3.length+a6K r o3<=112) (hB:∀ v∈o3,Bd r v) (hI:a3f r o3) (hC:g3=false->o3=o1) (hM:g3=true->a6K r o3 < a6K r o1) (hv:Bd r v) (hn:o3.contains v=false):(o3++[v]).length+a6K r (o3++[v])<=112/\(∀ x∈o3++[v],Bd r x)/\a3f r (o3++[v])/\a6K r (o3++[v]) < a6K r o1:=by
 have h1:=miss_lt hv.all hn;refine ⟨by simp only [W6,W9,q0H];omega,fun x hx=>?_,fun l hl hk x hx=>W7.2 (.inl (hI l hl hk x hx)), ?_⟩
 ·rcases W7.1 hx with h|h
  ·exact hB x h
  ·rw [V5.1 h];exact hv
 ·cases g3 with
  | false=>rw [hC rfl] at h1 ⊢;exact h1
  | true=>have:=hM rfl;omega
def b7w (r:c6) (hpre:k7 r=true):spZ 137 [(true,[.i .i64 r.Kind,.s r.Head.Name,l8 r.Head.Args,a0R r.Body])] [] (.one (false,[a7U (a1O r)])):=by
 refine sy' Tryz.func137 (q' 1 [ao (.box 4 (.t 0)),ao (.mov (.k (.v false [.nl [.s []]])))] (q' 12 [ao (.bsl 1 0 [.s] []),aV 3] (.seq (q' 13 [aG 3 1,aN,aK 0] (.block 0 (.loop (q' 17 [ar 16 15] (.seq (.cond (.t 17) .skip (.exit 0)) (.seq (.block 1 (q' 18 [ai 10 14 16,aE 10,ax (w' 5 [.i .i64,.s,.sl j5,.i .i64,.s,.i .i64,.s,.s,.i .i64,.s]),aS 10 5 19] (q' 20 [aG 0 5,ao (.bin .eql (.t 21) (k' 1))] (.cond (.t 22) (g' 23 [am 3,af 1 5,aG 1 24,ac 229 [26],ao (.app 1 16 [.s] (.t 23) (.t 27)),aV 3]) .skip)))) (g' 29 [aA 16]))))))) (.seq (q' 0 [ab 6 true] (.block 2 (.loop (.seq (q' 30 [am 6] (.cond (.t 30) .skip (.exit 2))) (.block 3 (q' 0 [ab 6 false] (q' 31 [aG 3 1,aN,aK 0] (.block 4 (.loop (q' 35 [ar 34 33] (.seq (.cond (.t 35) .skip (.exit 4)) (.seq (.block 5 (q' 36 [ai 10 32 34,aE 10,ax (w' 8 [.i .i64,.s,.sl j5,.i .i64,.s,.i .i64,.s,.s,.i .i64,.s]),aS 10 8 37] (.seq (q' 38 [aG 0 8,ao (.bin .neq (.t 39) (k' 3)),am 40,au (.fa 3 (.t 8)) 41 false,au (.ld false 1 (.t 42)) 41 false,au (.bin .neq (.t 43) (k' 1)) 41 false,ao (.pick (.t 41) (bb true) (.t 44))] (.cond (.t 45) (.exit 5) .skip)) (q' 46 [af 4 8,aE 3,af 7 8,aE 3,ao (.bld [.s,.i .i64,.s,.s,.i .i64,.s] [(0,3,.t 47),(3,3,.t 49)]),af 7 8,aE 3,af 4 8,aE 3,ao (.bld [.s,.i .i64,.s,.s,.i .i64,.s] [(0,3,.t 52),(3,3,.t 54)]),ao (.bsl 6 2 [.s,.i .i64,.s,.s,.i .i64,.s] [(0,.t 50),(1,.t 55)]),aN,aK 0] (.block 6 (.loop (q' 59 [ar 58 57] (.seq (.cond (.t 59) .skip (.exit 6)) (.seq (.block 7 (q' 60 [ai 6 56 58,aE 6,ax (w' 10 [.s,.i .i64,.s, .s,.i .i64,.s]),aS 6 10 61] (q' 62 [ao (.ib 2 3 (.t 10) (k' 1)),aG 0 62,ao (.bin .eql (.t 64) (.k (.v false [.c (.s [])]))),am 65,au (.mov (.t 3)) 66 false,au (.ib 2 3 (.t 10) (k' 1)) 66 false,au (.fa 0 (.t 68)) 66 false,au (.ld false 1 (.t 69)) 66 false,au (.call 49 [.t 67,.t 70]) 66 false,ao (.pick (.t 66) (bb true) (.t 71)),aV 11] (q' 73 [aM [11,73],au (.ib 2 3 (.t 10) (k' 0)) 74 true,au (.fa 0 (.t 75)) 74 true,au (.ld false 1 (.t 76)) 74 true,au (.bin .neq (.t 77) (.k (.v false [.c (.s [])]))) 74 true,ao (.pick (.t 74) (.t 78) (bb false)),am 79,au (.mov (.t 3)) 80 true,au (.ib 2 3 (.t 10) (k' 0)) 80 true,au (.fa 0 (.t 82)) 80 true,au (.ld false 1 (.t 83)) 80 true,au (.call 49 [.t 81,.t 84]) 80 true,au (.not (.t 85)) 80 true,ao (.pick (.t 80) (.t 86) (bb false))] (.cond (.t 87) (q' 88 [am 3,ao (.ib 2 3 (.t 10) (k' 0)),aG 0 89,ao (.bsl 1 1 [.s] [(0,.t 91)]),ao (.app 1 16 [.s] (.t 88) (.t 92)),aV 3] (g' 0 [ab 6 true])) .skip))))) (g' 94 [aA 58])))))))))) (g' 95 [aA 34]))))))))))))) (q' 96 [am 3,ac 230 [96]] (q' 98 [am 3,ac 231 [98],aV 2] .ret)))))) [.t 2] [(229,[],a4l),(49,[],c5Y),(230,[0],b0z),(231,[0],b3A)] ?_;intro hb hE;have hb8:r.Body.length<=8:=by
  simp only [k7,W3,V2] at hpre;omega
 have hV:=a9d hpre;simp only [go_sem];repeat' first|apply cj'|intro hc|exact om'|fail
 refine lk' false [(false,3,0,100006)] [1,14,15] [2] [] (fun i:{p:Nat×List (List UInt8) // p.1<=r.Body.length/\p.2.length<=6 * p.1/\(∀ v∈p.2,Bd r v)/\∀ l∈r.Body.take p.1,(l.Kind==1)=true->∀ x∈k6 l.Atom.Args,x∈p.2}=>[(3,.v false [.ow 100006]),(16,slV (.i .i64 i.1.1))]) nl' (fun i=>[(100006,[.s []],i.1.2.map z9)]) (fun i=>r.Body.length - i.1.1) (⟨(0,[]),by simp,by simp,by simp,by simp⟩) ?_;intro S0 hS0 i;obtain ⟨⟨i,o⟩,hi,hlen,hB,hI⟩:=i;simp only at hi hlen hB hI;simp only [go_sem,hS0];repeat' first|apply cj'|intro hc|exact om'|fail
 ·have:=a4X hpre (l:=r.Body.getD i default) (by rw [t8 default (by omega)];exact q0S _);omega
 ·have:=a4X hpre (l:=r.Body.getD i default) (by rw [t8 default (by omega)];exact q0S _);have:=b6K (r.Body.getD i default).Atom.Args;omega
 ·have hm:r.Body.getD i default∈r.Body:=by rw [t8 default (by omega)];exact q0S _
  have h6:=a4X hpre hm;have hv6:=b6K (r.Body.getD i default).Atom.Args;have h2:∀ v∈o++a5H (r.Body.getD i default).Atom.Args,Bd r v:=fun v hv=>(W7.1 hv).elim (hB v) fun h=>c2h hm hc (b6r.1 h)
  have h3:∀ l∈r.Body.take (i+1),(l.Kind==1)=true->∀ x∈k6 l.Atom.Args,x∈o++a5H (r.Body.getD i default).Atom.Args:=by
   intro l hl hk x hx;rw [j6 default (by omega),W7,V5] at hl;rcases hl with hl|rfl
   ·exact W7.2 (.inl (hI l hl hk x hx))
   ·exact W7.2 (.inr (b6r.2 hx))
  (refine lpK_n2 (⟨(i+1,o++a5H (r.Body.getD i default).Atom.Args),by simp only;omega,by simp only [W6];omega,h2,h3⟩) _ (by simp only [go_sem];try rfl) ?_;simp only [go_sem,hS0]<;>repeat' first|apply V3|exact on'|fail)
  all_goals rw [q0X]
 ·have h3:∀ l∈r.Body.take (i+1),(l.Kind==1)=true->∀ x∈k6 l.Atom.Args,x∈o:=by
   intro l hl hk x hx;rw [j6 default (by omega),W7,V5] at hl;rcases hl with hl|rfl
   ·exact hI l hl hk x hx
   ·rw [hc] at hk;cases hk
  exact nk0 ⟨(i+1,o),by simp only;omega,by simp only;omega,hB,h3⟩
 rw [j1 (by omega)] at hI;clear hc;have hms:=miss_le r o;refine lk' false [(false,3,0,100006)] [1] [2] [] (fun i:{p:Bool×List (List UInt8) // p.2.length+a6K r p.2<=112/\(∀ v∈p.2,Bd r v)/\a3f r p.2/\(p.1=false->∀ l∈r.Body,a0i p.2 l)}=>[(3,.v false [.ow 100006]),(6,slV (.b i.1.1))]) nl' (fun i=>[(100006,[.s []],i.1.2.map z9)]) (fun i=>2 * a6K r i.1.2+(bif i.1.1 then 1 else 0)) (⟨(true,o),by simp only;omega,hB,hI,by intro h;cases h⟩) ?_;intro S1 hS1 i;obtain ⟨⟨g,o1⟩,hl1,hB1,hI1,hC1⟩:=i;simp only at hl1 hB1 hI1 hC1;simp only [go_sem,hS0,hS1];repeat' first|apply cj'|intro hc|exact om'|fail
 ·skip
  refine lk' false [(false,3,0,100006)] [1,32,33] [2] [] (fun i:{p:Nat×Bool×List (List UInt8) // p.1<=r.Body.length/\p.2.2.length+a6K r p.2.2<=112/\(∀ v∈p.2.2,Bd r v)/\a3f r p.2.2/\(p.2.1=false->p.2.2=o1/\∀ l∈r.Body.take p.1,a0i o1 l)/\(p.2.1=true->a6K r p.2.2 < a6K r o1)}=>[(3,.v false [.ow 100006]),(6,slV (.b i.1.2.1)),(34,slV (.i .i64 i.1.1))]) nl' (fun i=>[(100006,[.s []],i.1.2.2.map z9)]) (fun i=>r.Body.length - i.1.1) (⟨(0,false,o1),by simp,hl1,hB1,hI1,by simp,by intro h;cases h⟩) ?_;intro S2 hS2 i;obtain ⟨⟨i,g2,o2⟩,hi2,hl2,hB2,hI2,hC2,hM2⟩:=i;simp only at hi2 hl2 hB2 hI2 hC2 hM2;simp only [go_sem,hS0,hS1,hS2];repeat' first|apply cj'|intro hc|exact om'|fail
  ·have h3:g2=false->o2=o1/\∀ l∈r.Body.take (i+1),a0i o1 l:=by
    intro hg;refine ⟨(hC2 hg).1,fun l hl=>?_⟩;rw [j6 default (by omega),W7,V5] at hl;rcases hl with hl|rfl
    ·exact (hC2 hg).2 l hl
    ·intro h5;simp only [a5D,W3] at h5;rcases hc with h|h
     ·simp only [bne,h5.1] at h;cases h
     ·simp only [bne,h5.2] at h;cases h
   (refine lpK_n2 (⟨(i+1,g2,o2),by simp only;omega,hl2,hB2,hI2,h3,hM2⟩) _ (by simp only [go_sem,hS0,hS1];try rfl) ?_;simp only [go_sem,hS0,hS1,hS2]<;>repeat' first|apply V3|exact on'|fail)
  ·skip
   refine lk' false [(false,3,0,100006)] [1,32,33,34,56,57] [2] [7168] (fun i:{p:Nat×Bool×List (List UInt8) // p.1<=2/\p.2.2.length+a6K r p.2.2<=112/\(∀ v∈p.2.2,Bd r v)/\a3f r p.2.2/\(p.2.1=false->p.2.2=o1/\(∀ l∈r.Body.take i,a0i o1 l)/\(0 < p.1->z8 o1 (r.Body.getD i default).B=true->a0j (r.Body.getD i default).A=true->(r.Body.getD i default).A.Var∈o1)/\(1 < p.1->z8 o1 (r.Body.getD i default).A=true->a0j (r.Body.getD i default).B=true->(r.Body.getD i default).B.Var∈o1))/\(p.2.1=true->a6K r p.2.2 < a6K r o1)}=>[(3,.v false [.ow 100006]),(6,slV (.b i.1.2.1)),(58,slV (.i .i64 i.1.1))]) nl' (fun i=>[(100006,[.s []],i.1.2.2.map z9)]) (fun i=>2 - i.1.1) (⟨(0,g2,o2),by simp,hl2,hB2,hI2,fun hg=>⟨(hC2 hg).1,(hC2 hg).2,by simp,by simp⟩,hM2⟩) ?_;intro S3 hS3 i;obtain ⟨⟨k,g3,o3⟩,hk3,hl3,hB3,hI3,hC3,hM3⟩:=i;simp only at hk3 hl3 hB3 hI3 hC3 hM3;have hm:r.Body.getD i default∈r.Body:=by rw [t8 default (by omega)];exact q0S _
   have he:a5D (r.Body.getD i default)=true:=by
    simp only [bne,q2E] at hc;rw [a5D,hc.1,hc.2];rfl
   rcases (show k=0\/k=1\/k=2 by omega) with rfl|rfl|rfl
   ·simp only [go_sem,hS0,hS1,hS2,hS3];repeat' first|apply cj'|intro hc|exact om'|fail
    ·have hv:Bd r (r.Body.getD i default).A.Var:=by
      rcases hc.1.1 with h|h
      ·exact Bd.leftV hm he (by rw [a0j,hc.1.2];rfl) (by rw [a0j,h];rfl)
      ·exact Bd.leftB hm he (by rw [a0j,hc.1.2];rfl) (hB3 _ (q2T.1 h))
     have ha:=b8v hV hl3 hB3 hI3 (fun hg=>(hC3 hg).1) hM3 hv hc.2
     (refine lpK_n2 (⟨(1,true,o3++[(r.Body.getD i default).A.Var]),by simp,ha.1,ha.2.1,ha.2.2.1,fun h=>absurd h (by simp),fun _=>ha.2.2.2⟩) _ (by simp only [go_sem,hS0,hS1,hS2];try rfl) ?_;simp only [go_sem,hS0,hS1,hS2,hS3]<;>repeat' first|apply V3|exact on'|fail)
     all_goals rw [q0X];rfl
    ·have h9:g3=false->z8 o1 (r.Body.getD i default).B=true->a0j (r.Body.getD i default).A=true->(r.Body.getD i default).A.Var∈o1:=by
      intro hg h5 h6;rw [<- (hC3 hg).1] at h5 ⊢;rw [z8] at h5;simp only [a0j] at h6;rw [h5,h6] at hc;simpa using hc
     (refine lpK_n2 (⟨(1,g3,o3),by simp,hl3,hB3,hI3,fun hg=>⟨(hC3 hg).1,(hC3 hg).2.1,fun _=>h9 hg,by simp⟩,hM3⟩) _ (by simp only [go_sem,hS0,hS1,hS2];try rfl) ?_;simp only [go_sem,hS0,hS1,hS2,hS3]<;>repeat' first|apply V3|exact on'|fail)
   ·simp only [go_sem,hS0,hS1,hS2,hS3];repeat' first|apply cj'|intro hc|exact om'|fail
    ·have hv:Bd r (r.Body.getD i default).B.Var:=by
      rcases hc.1.1 with h|h
      ·exact Bd.rightV hm he (by rw [a0j,hc.1.2];rfl) (by rw [a0j,h];rfl)
      ·exact Bd.rightB hm he (by rw [a0j,hc.1.2];rfl) (hB3 _ (q2T.1 h))
     have ha:=b8v hV hl3 hB3 hI3 (fun hg=>(hC3 hg).1) hM3 hv hc.2
     (refine lpK_n2 (⟨(2,true,o3++[(r.Body.getD i default).B.Var]),by simp,ha.1,ha.2.1,ha.2.2.1,fun h=>absurd h (by simp),fun _=>ha.2.2.2⟩) _ (by simp only [go_sem,hS0,hS1,hS2];try rfl) ?_;simp only [go_sem,hS0,hS1,hS2,hS3]<;>repeat' first|apply V3|exact on'|fail)
     all_goals rw [q0X];rfl
    ·have h9:g3=false->z8 o1 (r.Body.getD i default).A=true->a0j (r.Body.getD i default).B=true->(r.Body.getD i default).B.Var∈o1:=by
      intro hg h5 h6;rw [<- (hC3 hg).1] at h5 ⊢;rw [z8] at h5;simp only [a0j] at h6;rw [h5,h6] at hc;simpa using hc
     (refine lpK_n2 (⟨(2,g3,o3),by simp,hl3,hB3,hI3,fun hg=>⟨(hC3 hg).1,(hC3 hg).2.1,(fun _=>(hC3 hg).2.2.1 (by simp)),fun _=>h9 hg⟩,hM3⟩) _ (by simp only [go_sem,hS0,hS1,hS2];try rfl) ?_;simp only [go_sem,hS0,hS1,hS2,hS3]<;>repeat' first|apply V3|exact on'|fail)
   ·simp only [go_sem,hS0,hS1,hS2,hS3];repeat' first|apply cj'|intro hc|exact om'|fail
    have h9:g3=false->o3=o1/\∀ l∈r.Body.take (i+1),a0i o1 l:=by
     intro hg;obtain ⟨h5,h6,h7,h8⟩:=hC3 hg;refine ⟨h5,fun l hl=>?_⟩;rw [j6 default (by omega),W7,V5] at hl;rcases hl with hl|rfl
     ·exact h6 l hl
     ·exact c4C (h7 (by simp)) (h8 (by simp))
    (refine lpK_n2 (⟨(i+1,g3,o3),by simp only;omega,hl3,hB3,hI3,h9,hM3⟩) _ (by simp only [go_sem,hS0,hS1,hS2];try rfl) ?_;simp only [go_sem,hS0,hS1,hS2,hS3]<;>repeat' first|apply V3|exact on'|fail)
  ·have h3:g2=false->∀ l∈r.Body,a0i o2 l:=by
    intro hg l hl;have h5:=hC2 hg;rw [j1 (by omega)] at h5;rw [h5.1];exact h5.2 l hl
   cases g2 with
   | false=>
     have h7:=(hC2 rfl).1
     (refine lpK_n2 (⟨(false,o2),hl2,hB2,hI2,h3⟩) _ (by simp only [go_sem,hS0,hS1,hS2];try rfl) ?_;simp only [go_sem,hS0,hS1,hS2]<;>repeat' first|apply V3|exact on'|fail)
     all_goals (subst h7;rw [show g=true by assumption];simp only [W4];omega)
   | true=>
     have h7:=hM2 rfl
     (refine lpK_n2 (⟨(true,o2),hl2,hB2,hI2,h3⟩) _ (by simp only [go_sem,hS0,hS1,hS2];try rfl) ?_;simp only [go_sem,hS0,hS1,hS2]<;>repeat' first|apply V3|exact on'|fail)
     all_goals (rw [show g=true by assumption];simp only [W4];omega)
 ·rw [c1b hB1 hI1 (hC1 hc)]
noncomputable def a9s:CT:=u9 (fun (x:c6) h=>b7w x h)
@[go_sem] def c5n:=fun x0 x1 x2 x3=>nm' (fP' a9s rfl ⟨x0,⟨x1,x2⟩,x3⟩)
end Go.Aw
namespace Go.Aw
open Go.Proofs Go.Shelf Go.RowKit
attribute [local irreducible] aft blk lpK retK AW A0d
set_option linter.all false
set_option maxRecDepth 100000
def a3F (l:c7):List c8:=bif l.Kind==3 then [l.A,l.B] else l.Atom.Args
def c1T (r:c6):List c8:=r.Head.Args++r.Body.flatMap a3F
def a4a (r:c6):List (List UInt8):=s3 sLt [] (k6 r.Head.Args++b0t r)
def b9V (a b:List c8):k6 (a++b)=k6 a++k6 b:=by simp [k6]
def c1V {l:c7} (h:a1B l=true):k6 (a3F l)=k6 l.Atom.Args++k6 [l.A,l.B]:=by
 rw [a1B] at h;rw [a3F];cases hk:(l.Kind==3) with
 | true=>
   rw [hk] at h;simp only [W4,W3,beq_iff_eq] at h ⊢;have:l.Atom.Args=[]:=q0A.1 (by omega);rw [this];rfl
 | false=>
   rw [hk] at h;simp only [W2,W3,b9Q,beq_iff_eq] at h ⊢;have h1:a0j l.A=false:=by simp [a0j,h.1.2.1]
   have h2:a0j l.B=false:=by simp [a0j,h.2.1]
   simp [k6,h1,h2]
def b6J:∀ {b:List c7},(∀ l∈b,a1B l=true)->k6 (b.flatMap a3F)=b.flatMap fun l=>k6 l.Atom.Args++k6 [l.A,l.B]
 | [],_=>rfl
 | l::b,h=>by
   rw [q2J,q2J,b9V,c1V (h l (by simp)),b6J fun x hx=>h x (by simp [hx])]
def b4M {r:c6} (h:k7 r=true):∀ l∈r.Body,a1B l=true:=by
 simp only [k7,W3,q0P] at h;exact h.2
def c7f {r:c6} (h:k7 r=true):a5H (c1T r)=a4a r:=by
 rw [a5H,c1T,b9V,b6J (b4M h),a4a,b0t]
def b4Q {l:c7} (h:a1B l=true):(a3F l).length<=6:=by
 rw [a1B] at h;rw [a3F];cases hk:(l.Kind==3) with
 | true=>simp
 | false=>
   rw [hk] at h;simp only [W2,W3,V2,a1C] at h ⊢;omega
def b6H:∀ {b:List c7},(∀ l∈b,a1B l=true)->(b.flatMap a3F).length<=6 * b.length
 | [],_=>by simp
 | l::b,h=>by
   have h1:=b4Q (h l (by simp));have h2:=b6H (b:=b) fun x hx=>h x (by simp [hx])
   simp only [q2J,W6,W9];omega
def a9B {r:c6} (h:k7 r=true):r.Head.Args.length<=6/\r.Body.length<=8:=by
 simp only [k7,W3,V2,a1C] at h;omega
noncomputable def looseL (r:c6):List (List UInt8):=(a4a r).filter fun v=>!(a1O r).contains v
noncomputable def a9O (r:c6):List (List UInt8):=bif k7 r then looseL r else []
def c5d {r:c6} (h:k7 r=true):(a4a r).length<=128:=by
 have h1:=a2e sLt (k6 r.Head.Args++b0t r) [];have h2:=a2i r.Head.Args;have h3:=a9d h;have h4:=a9B h;simp only [W6,q0H] at h1;rw [a4a];omega
def b9h (l:List c8) (hpre:l.length < 1099511627776):spZ 233 [(false,[.sl false [.s [],.i .i64 0,.s []] (l.map c8.cells)])] [] (.one (false,[.sl true [.s [],.i .i64 0,.s []] (l.map c8.cells)])):=by
 exact c4B (d:=[.s [],.i .i64 0,.s []]) Tryz.cloneTerm (by kernel_rfl) (hi:=rfl) (hz0:=rfl) (hz1:=rfl) (bytes:=40) (hz2:=rfl) (hzs:=rfl) (by decide) (fun w=>rfl) _ (by rw [q2M];omega)
noncomputable def b1t:CT:=u9 (fun (x:(List c8)) h=>b9h x h)
@[go_sem] def c5X:=fun l=>nm' (fP' b1t rfl l)
def b4j (l:c7):spZ 234 [(true,[.i .i64 l.Kind,.s l.Atom.Name,l8 l.Atom.Args,.i .i64 l.Op,.s l.A.Var,.i .i64 l.A.Val.N,.s l.A.Val.S,.s l.B.Var,.i .i64 l.B.Val.N,.s l.B.Val.S])] [] (.one (false,[l8 (a3F l)])):=by
 refine sx' false true none Tryz.func234 (q' 1 [ao (.box 10 (.t 0)),ao (.mov (.k (.v false [.nl j5])))] (.seq (q' 3 [aG 0 1,ao (.bin .eql (.t 4) (k' 3))] (.cond (.t 5) (q' 6 [af 4 1,aE 3,af 7 1,aE 3,ao (.bsl 3 2 [.s,.i .i64,.s] [(0,.t 7),(1,.t 9)]),aV 2] .ret) .skip)) (q' 11 [af 1 1,aG 1 11,aV 2] .ret))) [.t 2] [] ?_;intro hb hE;simp only [go_sem];repeat' first|apply cj'|intro hc|exact om'|fail
 all_goals (rw [a3F,hc];rfl)
noncomputable def a6p:CT:=j7 (fun (x:c7)=>b4j x)
@[go_sem] def c2w:=fun x0 x1 x2 x3 x4 x5 x6 x7 x8 x9=>nm' (fQ' a6p rfl ⟨x0,⟨x1,x2⟩,x3,⟨x4,⟨x5,x6⟩⟩,⟨x7,⟨x8,x9⟩⟩⟩)
def b3Q {β:Type} (f:c7->List β) {b:List c7} {i:Nat} (h:i < b.length):(b.take (i+1)).flatMap f=(b.take i).flatMap f++f (b.getD i default):=by
 rw [j6 default h,List.flatMap_append];simp
def b5q (r:c6) (hpre:k7 r=true):spZ 139 [(true,[.i .i64 r.Kind,.s r.Head.Name,l8 r.Head.Args,a0R r.Body])] [] (.one (false,[a7U (a4a r)])):=by
 refine sy' Tryz.func139 (q' 1 [ao (.box 4 (.t 0)),ao (.mov (.k (.v false [.nl [.s []]])))] (q' 6 [af 1 1,aG 1 6,ac 233 [8],aV 3] (.seq (q' 10 [aG 3 1,aN,aK 0] (.block 0 (.loop (q' 14 [ar 13 12] (.seq (.cond (.t 14) .skip (.exit 0)) (.seq (.block 1 (q' 15 [ai 10 11 13,aE 10,ax (w' 5 [.i .i64,.s,.sl j5,.i .i64,.s, .i .i64,.s,.s,.i .i64,.s]),aS 10 5 16] (g' 17 [am 3,ae 10 5,ac 234 [18],ao (.app 3 40 [.s,.i .i64,.s] (.t 17) (.t 19)),aV 3]))) (g' 21 [aA 13]))))))) (q' 22 [am 3,ac 229 [22],aV 2] .ret)))) [.t 2] [(233,[],b1t),(234,[],a6p),(229,[],a4l)] ?_;intro hb hE;have hh:=a9B hpre;have hL:=b4M hpre;simp only [go_sem];repeat' first|apply cj'|intro hc|exact om'|fail
 refine lk' false [(false,3,0,100006)] [11,12] [] [] (fun i:{i:Nat // i<=r.Body.length}=>[(3,.v false [.ow 100006]),(13,slV (.i .i64 i.1))]) nl' (fun i=>[(100006,j5,(r.Head.Args++(r.Body.take i.1).flatMap a3F).map c8.cells)]) (fun i=>r.Body.length - i.1) (⟨0,by simp⟩) ?_;intro S0 hS0 i;obtain ⟨i,hi⟩:=i;have h1:=b6H (b:=r.Body.take i) fun l hl=>hL l (q2Y hl)
 rw [q0O] at h1;simp only [go_sem,hS0];repeat' first|apply cj'|intro hc|exact om'|fail
 all_goals first
  | (have h2:=b4Q (hL _ (A3w (d:=default) (show i < r.Body.length by omega)));(try simp only [W6] at *);omega)
  | ((refine lpK_n2 (⟨i+1,by omega⟩) _ (by simp only [go_sem];try rfl) ?_;simp only [go_sem,hS0]<;>repeat' first|apply V3|exact on'|fail);rw [b3Q a3F (by omega)];simp only [q0X,q0N];done)
  | (rw [j1 (by omega),<- c7f hpre,c1T];done)
  | ((try simp only [W6] at *);omega)
  | trace_state
noncomputable def a7H:CT:=u9 (fun (x:c6) h=>b5q x h)
@[go_sem] def c4o:=fun x0 x1 x2 x3=>nm' (fP' a7H rfl ⟨x0,⟨x1,x2⟩,x3⟩)
@[go_sem] def l16T_nil (l:List c8):a1s [(false,[.sl false [.s []] []]),(false,[l8 l])]=some (0+l.length < 1099511627776,[],.one (false,[a2B (s3 sLt [] (k6 l))])):=a3w [] l
@[go_sem] def l16T_two (a:List (List UInt8)) (v1:List UInt8) (n1:Int) (s1 v2:List UInt8) (n2:Int) (s2:List UInt8):a1s [(false,[a2B a]),(false,[.sl false j5 [[.s v1,.i .i64 n1,.s s1],[.s v2,.i .i64 n2,.s s2]]])]=some (a.length+2 < 1099511627776,[],.one (false,[a2B (s3 sLt a (k6 [⟨v1,⟨n1,s1⟩⟩,⟨v2,⟨n2,s2⟩⟩]))])):=a3w a [⟨v1,⟨n1,s1⟩⟩,⟨v2,⟨n2,s2⟩⟩]
def c4T (l r s:List (List UInt8)):s3 sLt (s3 sLt l r) s=s3 sLt l (r++s):=by simp [s3,q3T]
def b5u (r:c6):spZ 158 [(true,[.i .i64 r.Kind,.s r.Head.Name,l8 r.Head.Args,a0R r.Body])] [] (.one (false,[a2B (bif k7 r then a4a r else [])])):=by
 refine sx' false true none Tryz.func158 (q' 1 [ao (.box 4 (.t 0)),ao (.mov (.k (.v false [.nl [.s []]])))] (q' 5 [ao (.bsl 1 0 [.s] []),aV 3] (.seq (q' 6 [ae 4 1,ac 73 [6],ao (.not (.t 7))] (.cond (.t 8) (q' 9 [am 3,aV 2] .ret) .skip)) (q' 10 [am 3,af 1 1,aG 1 11,ac 250 [10,13],aV 3] (.seq (q' 15 [aG 3 1,aN,aK 0] (.block 0 (.loop (q' 19 [ar 18 17] (.seq (.cond (.t 19) .skip (.exit 0)) (.seq (.block 1 (q' 20 [am 18,aV 4] (q' 21 [am 3,aG 3 1,am 4,aI 10,aF 1,aG 1 26,ac 250 [21,28],aV 3] (.rego [(true,0,m' 30 3),(true,1,f' 31 3 1),(true,2,l' 32 31),(true,3,m' 33 4),(true,4,i' 34 10 32 33),(true,5,f' 35 4 34),(true,6,e' 36 3 35),(true,7,f' 37 3 1),(true,8,l' 38 37),(false,9,m' 39 4),(false,10,i' 40 10 38 39),(false,11,f' 41 7 40),(false,12,e' 42 3 41),(false,13,o' 43 (.bsl 3 2 [.s, .i .i64,.s] [(0,.t 36),(1,.t 42)])),(false,14,c' 44 250 [30,43]),(false,15,m' 3 44)] [2,3])))) (g' 45 [aA 18]))))))) (q' 46 [am 3,aV 2] .ret)))))) [.t 2] [(73,[],a0z),(250,[],a1s)] ?_;intro hb hE;simp only [go_sem];repeat' first|apply cj'|intro hc|exact om'|fail
 ·rw [hc];rfl
 ·have:=a9B hc;omega
 have hR:k7 r=true:=hc;have hh:=a9B hR;have hA:=a9d hR;rw [hR];clear hc;refine lq' false [1,17] [2,3] [] (fun i:{i:Nat // i<=r.Body.length}=>[(3,.v false [.c (a2B (s3 sLt [] (k6 r.Head.Args++(r.Body.take i.1).flatMap fun l=>k6 l.Atom.Args++k6 [l.A,l.B])))]),(18,slV (.i .i64 i.1))]) nl' nl' (fun i=>r.Body.length - i.1) (⟨0,by simp⟩) ?_;intro S0 hS0 i;obtain ⟨i,hi⟩:=i;have hp:=a2e sLt (k6 r.Head.Args++(r.Body.take i).flatMap fun l=>k6 l.Atom.Args++k6 [l.A,l.B]) [];have hv:=a2i r.Head.Args;have hf:((r.Body.take i).flatMap fun l=>k6 l.Atom.Args++k6 [l.A,l.B]).length<=64:=by
  refine q1S ?_ hA;have e:b0t r=((r.Body.take i).flatMap fun l=>k6 l.Atom.Args++k6 [l.A,l.B])++(r.Body.drop i).flatMap fun l=>k6 l.Atom.Args++k6 [l.A,l.B]:=by
   rw [<- List.flatMap_append,q1A];rfl
  rw [e,W6];omega
 simp only [W6,q0H] at hp;have h2:=a2e sLt (k6 (r.Body.getD i default).Atom.Args) (s3 sLt [] (k6 r.Head.Args++(r.Body.take i).flatMap fun l=>k6 l.Atom.Args++k6 [l.A,l.B]));have h3:=a2i (r.Body.getD i default).Atom.Args;simp only [go_sem,hS0];repeat' first|apply cj'|intro hc|exact om'|fail
 all_goals first
  | (have hq:=a4X hR (A3w (d:=default) (show i < r.Body.length by omega));omega)
  | ((refine lpK_n2 (⟨i+1,by omega⟩) _ rfl ?_;simp only [go_sem,hS0]<;>repeat' first|apply V3|exact on'|fail);rw [show ((r.Body.take (i+1)).flatMap fun l=>k6 l.Atom.Args++k6 [l.A,l.B])=_ from b3Q _ (by omega)];simp only [c4T,q0N];done)
  | ((refine lpK_n2 (⟨i+1,by omega⟩) _ rfl ?_;simp only [go_sem,hS0]<;>repeat' first|apply V3|exact on'|fail);trace_state)
  | (rw [j1 (by omega)];rfl)
  | trace_state
noncomputable def a7L:CT:=j7 (fun (x:c6)=>b5u x)
@[go_sem] def c4s:=fun x0 x1 x2 x3=>nm' (fQ' a7L rfl ⟨x0,⟨x1,x2⟩,x3⟩)
def b0P (r:c6):spZ 74 [(true,[.i .i64 r.Kind,.s r.Head.Name,l8 r.Head.Args,a0R r.Body])] [] (.one (false,[a2B (a9O r)])):=by
 refine sx' false true none Tryz.func74 (q' 1 [ao (.box 4 (.t 0)),ao (.mov (.k (.v false [.nl [.s []]])))] (q' 7 [ae 4 1,ac 157 [7],aV 3] (q' 9 [ao (.bsl 1 0 [.s] []),aV 4] (.seq (q' 10 [ae 4 1,ac 158 [10],aN,aK 0] (.block 0 (.loop (q' 14 [ar 13 12] (.seq (.cond (.t 14) .skip (.exit 0)) (.seq (.block 1 (q' 15 [ai 1 11 13,aL,aV 6] (q' 17 [aM [3,6],ac 159 [17,18],ao (.not (.t 19))] (.cond (.t 20) (g' 21 [aM [4,6],ao (.bsl 1 1 [.s] [(0,.t 22)]),ao (.app 1 16 [.s] (.t 21) (.t 23)),aV 4]) .skip)))) (g' 25 [aA 13]))))))) (q' 26 [am 4,aV 2] .ret))))) [.t 2] [(157,[],a4z),(158,[],a7L),(159,[],a4n)] ?_;intro hb hE;have hlv:(bif k7 r then a4a r else []).length<=128:=by
  cases h:k7 r with
  | true=>exact c5d h
  | false=>exact q1X _
 simp only [go_sem];repeat' first|apply cj'|intro hc|exact om'|fail
 refine lk' false [(false,4,0,100008)] [3,11,12] [] [] (fun i:{i:Nat // i<=(bif k7 r then a4a r else []).length}=>[(4,.v false [.ow 100008]),(13,slV (.i .i64 i.1))]) nl' (fun i=>[(100008,[.s []],(((bif k7 r then a4a r else []).take i.1).filter fun v=>!(bif k7 r then a1O r else []).contains v).map z9)]) (fun i=>(bif k7 r then a4a r else []).length - i.1) (⟨0,by simp⟩) ?_;intro S0 hS0 i;obtain ⟨i,hi⟩:=i;have hf:=q2D (fun v=>!(bif k7 r then a1O r else []).contains v) ((bif k7 r then a4a r else []).take i);rw [q0O] at hf;simp only [go_sem,hS0];repeat' first|apply cj'|intro hc|exact om'|fail
 all_goals first
  | omega
  | (have hc2:(fun v=>!(bif k7 r then a1O r else []).contains v) ((bif k7 r then a4a r else []).getD i [])=true:=by (first|exact hc|(simpa [-List.getD_eq_getElem?_getD] using hc))
     (refine lpK_n2 (⟨i+1,by omega⟩) _ (by simp only [go_sem];try rfl) ?_;simp only [go_sem,hS0]<;>repeat' first|apply V3|exact on'|fail)
     rw [f_yes (p:=fun v=>!(bif k7 r then a1O r else []).contains v) [] (by omega) hc2];done)
  | (have hc2:(fun v=>!(bif k7 r then a1O r else []).contains v) ((bif k7 r then a4a r else []).getD i [])=false:=by (first|exact hc|(simpa [-List.getD_eq_getElem?_getD] using hc))
     (refine lpK_n2 (⟨i+1,by omega⟩) _ (by simp only [go_sem];try rfl) ?_;simp only [go_sem,hS0]<;>repeat' first|apply V3|exact on'|fail)
     rw [f_no (p:=fun v=>!(bif k7 r then a1O r else []).contains v) [] (by omega) hc2];done)
  | (rw [j1 (by omega),a9O];cases h:k7 r<;>rfl)
  | trace_state
noncomputable def a4B:CT:=j7 (fun (x:c6)=>b0P x)
@[go_sem] def c0i:=fun x0 x1 x2 x3=>nm' (fQ' a4B rfl ⟨x0,⟨x1,x2⟩,x3⟩)
def b7g (k:List (List UInt8)) (x:List UInt8):Lib.containsS (k.map fun s=>(⟨s.toArray⟩:ByteArray)) ⟨x.toArray⟩=k.contains x:=by
 rw [Bool.eq_iff_iff,Lib.containsS_iff,q2T,q1H];constructor
 ·rintro ⟨s,hs,e⟩;have e2:s.toArray=x.toArray:=ByteArray.mk.inj e;have:s=x:=by simpa using e2
  exact this▸hs
 ·intro h;exact ⟨x,h,rfl⟩
def c1L (b o n cap:Nat) (a:Option Addr) (y:ByteArray) (W:World) (r:Bool) (hcell:W.cell? ⟨b,o,none⟩=some (Value.slice a n cap)) (HC:Aside (Calls Tryz.prog 49 #[.slice a n cap,.string y] W fun e w'=>e=.returned (.bool r)/\w' = W)):Calls Tryz.prog 140 #[.string y,.pointer (some ⟨b,o,none⟩)] W fun e w'=>e=.returned (.bool r)/\∃ q,w' = W.drewN q:=by
 go_enter Tryz.func140,Tryz.ntmps140
 go_wp2_with (go_at_call 49;refine HC.out.mono ?_;rintro e w' ⟨rfl,rfl⟩)
 go_ret
 exact ⟨rfl,0,rfl⟩
def b9w (k:List (List UInt8)) (F:Nat->Prop) (W:World) (lb:List Value) (h:C.RdVals F W [.p [a2B k]] lb []) (x:List UInt8):FnGives Tryz.prog 140 lb.toArray #[encStr x] (.bool (k.contains x)) W:=by
 unfold C.RdVals at h;obtain ⟨v,vs,f1,f2,rfl,hf,h1,h2⟩:=h;unfold C.RdVals at h2;obtain ⟨rfl,rfl⟩:=h2;unfold C.Rd at h1;obtain ⟨rfl,b,o,vs,rfl,hFb,hca,hv⟩:=h1;unfold C.RdVals at hv;obtain ⟨v,vs',f3,f4,rfl,hf2,hv1,hv2⟩:=hv;unfold C.RdVals at hv2;obtain ⟨rfl,rfl⟩:=hv2;unfold C.Rd at hv1;obtain ⟨a,cap,rfl,hl1,hl2,hl3,hl4⟩:=hv1;simp only [W2] at hl4;have hcell:=hca 0 (by simp);simp only [List.getElem_cons_zero,q3V] at hcell;have hcon:Calls Tryz.prog 49 #[.slice a (k.map z9).length cap,encStr x] W fun e w'=>e=.returned (.bool (k.contains x))/\w' = W:=by
  rcases hl4.2 with h0|⟨b2,o2,vs2,rfl,hF2,hca2,hrr⟩
  ·have hk:k=[]:=by simpa using h0
   subst hk;exact Any.slices_Contains_string_empty Tryz.l110 a cap ⟨x.toArray⟩ W
  ·obtain ⟨rfl,_,hok⟩:=a4U hrr;have:=Any.slices_Contains_string Tryz.l110 b2 o2 k.length cap (k.map fun s=>(⟨s.toArray⟩:ByteArray)) ⟨x.toArray⟩ W (by simp) (by rw [q2M] at hl1;simp only [maxLen] at hl2;omega) (fun j hj=>by
    have hj':j < k.length:=by simpa using hj
    have:=hca2 j (by simpa using hj');rw [this];simp [encStr,V7,hj'])
   rw [q0T (by simp),b7g] at this;rw [q2M];exact this
 show Calls Tryz.prog 140 #[encStr x,.pointer (some ⟨b,o,none⟩)] W _;exact c1L b o _ cap a _ W _ hcell hcon
def b3X (l:List (List UInt8)) (k:List (List UInt8)):spZ 138 [(false,[.sl true [.s []] (l.map z9)]),(false,[.f 140 [.p [.sl false [.s []] (k.map z9)]]])] [] (.one (false,[.sl true [.s []] ((l.filter fun v=>!k.contains v).map z9)])):=by
 refine c1z Tryz.delStr (by kernel_rfl) (fun w=>Tryz.zeroValue9 w) (enters_of Tryz.func140 (by kernel_rfl) rfl) (fun v=>k.contains v) (b9w k) ?_ l;intro F w lb fp h;unfold C.RdVals at h;obtain ⟨v,vs,f1,f2,rfl,hf,h1,h2⟩:=h;unfold C.RdVals at h2;obtain ⟨rfl,rfl⟩:=h2;unfold C.Rd at h1;rw [hf,h1.1];rfl
noncomputable def a6i:CT:=j7 (fun (x:(List (List UInt8))×(List (List UInt8)))=>b3X x.1 x.2)
@[go_sem] def c2k:=fun l k=>nm' (fQ' a6i rfl (l,k))
def b0K (r:c6):spZ 67 [(true,[.i .i64 r.Kind,.s r.Head.Name,l8 r.Head.Args,a0R r.Body])] [] (.one (false,[a7U (a9O r)])):=by
 refine sy' Tryz.func67 (q' 1 [ao (.box 4 (.t 0)),ao (.mov (.k (.v false [.nl [.s []]])))] (.seq (q' 4 [ae 4 1,ac 69 [4],ao (.not (.t 5))] (.cond (.t 6) (q' 2 [ao (.mov (.k (.v false [.nl [.s []]])))] .ret) .skip)) (q' 7 [ae 4 1,ac 137 [7],ax (w' 3 [.sl [.s []]]),aS 1 3 8] (q' 9 [ae 4 1,ac 139 [9],ao (.mf 140 [.t 3]),ac 138 [10,11],aV 2] .ret)))) [.t 2] [(69,[],a4j),(137,[],a9s),(139,[],a7H),(138,[0],a6i)] ?_;intro hb hE;simp only [go_sem];repeat' first|apply cj'|intro hc|exact om'|fail
 all_goals (have h9:k7 r=_:=hc;rw [a9O,h9];first|rfl)
noncomputable def a4x:CT:=j7 (fun (x:c6)=>b0K x)
@[go_sem] def c0a:=fun x0 x1 x2 x3=>nm' (fQ' a4x rfl ⟨x0,⟨x1,x2⟩,x3⟩)
end Go.Aw
namespace Go.Aw
open Go.Proofs
attribute [local irreducible] aft blk lpK retK AW A0d
set_option linter.all false
set_option maxRecDepth 100000
noncomputable def a5k (r:c6):Bool:=decide ((0:Int) < (a9O r).length)
noncomputable def a0e (p:c5):Int:=bif t6 p then a4o a5k p.Rules else -2
def a8o (r:c6):spZ 66 [(true,[.i .i64 r.Kind,.s r.Head.Name,l8 r.Head.Args,a0R r.Body])] [] (.one (false,[.b (a5k r)])):=by
 refine sy' Tryz.func66 (q' 0 [ax (o' 1 (.box 4 (.t 0))),ab 2 false] (q' 3 [ae 4 1,ac 67 [3],aN,ao (.bin .gtr (.t 5) (k' 0)),aV 2] .ret)) [.t 2] [(67,[],a4x)] ?_;intro hb hE;simp only [go_sem];repeat' first|apply cj'|intro hc|exact om'|fail
 all_goals (first|rfl)
noncomputable def a3h:CT:=j7 (fun (x:c6)=>a8o x)
@[go_sem] def b7S:=fun x0 x1 x2 x3=>nm' (fQ' a3h rfl ⟨x0,⟨x1,x2⟩,x3⟩)
def b7t (l:List c6):spZ 65 [(false,[o0 l]),(false,[.f 66 []])] [] (.one (false,[.i .i64 (a4o (fun y=>a5k y) l)])):=by
 refine sy' Tryz.func65 b2S [.t 4] [(66,[],a3h)] ?_;intro hb hE;simp only [go_sem];repeat' first|apply cj'|intro hc|exact om'|fail
 refine lq' false [0,1,7] [] [] (fun i:{i:Nat // i<=l.length/\(l.take i).any (fun y=>a5k y)=false}=>[(8,slV (.i .i64 i.1))]) nl' nl' (fun i=>l.length - i.1) (⟨0,by simp⟩) ?_;intro S0 hS0 i;obtain ⟨i,hi,ha⟩:=i;simp only [go_sem,hS0];repeat' first|apply cj'|intro hc|exact om'|fail
 ·exact (a0f (p:=fun y=>a5k y) (d:=default) (by omega) ha (by simpa [-List.getD_eq_getElem?_getD] using hc)).symm
 ·exact nx0 ⟨i+1,by omega,t2 (p:=fun y=>a5k y) default (by omega) ha (by simpa [-List.getD_eq_getElem?_getD] using hc)⟩
 ·exact (y3 (by rwa [j1 (by omega)] at ha)).symm
noncomputable def a9o:CT:=j7 (fun (x:(List c6))=>b7t x)
@[go_sem] def c5k:=fun l=>nm' (fQ' a9o rfl l)
def b0J (p:c5):spZ 21 [(true,[o8 p.Decls,o0 p.Rules])] [] (.one (false,[.i .i64 (a0e p)])):=by
 refine sy' Tryz.func21 (q' 1 [ao (.box 2 (.t 0)),aK 0] (.seq (q' 3 [ae 2 1,ac 62 [3],ao (.not (.t 4))] (.cond (.t 5) (q' 2 [ao (.mov (.k (.v false [.c (.i .i64 (-2))])))] .ret) .skip)) (q' 6 [aG 1 1,ao (.call 65 [.t 7,.k (.v false [.c (.f 66 [])])]),aV 2] .ret))) [.t 2] [(62,[],a2o),(65,[],a9o)] ?_;intro hb hE;simp only [go_sem];repeat' first|apply cj'|intro hc|exact om'|fail
 all_goals (have h9:t6 p=_:=hc;rw [a0e,h9];first|rfl)
noncomputable def a4w:CT:=j7 (fun (x:c5)=>b0J x)
@[go_sem] def b9Z:=fun x0 x1=>nm' (fQ' a4w rfl ⟨x0,x1⟩)
def b0O (p:c5):spZ 37 [(true,[o8 p.Decls,o0 p.Rules])] [] (.one (false,[.i .i64 (a0e p)])):=by
 refine sy' Tryz.func37 (q' 1 [ao (.box 2 (.t 0)),aK 0] (.seq (q' 4 [ae 2 1,ac 59 [4],ao (.not (.t 5))] (.cond (.t 6) (q' 2 [ao (.mov (.k (.v false [.c (.i .i64 (-2))])))] .ret) .skip)) (.seq (q' 7 [aG 1 1,aN,aK 0] (.block 0 (.loop (q' 11 [ar 10 9] (.seq (.cond (.t 11) .skip (.exit 0)) (.seq (.block 1 (q' 12 [am 10,aV 3] (q' 13 [aG 1 1,am 3,aI 4,aE 4,ac 74 [17],aN,ao (.bin .gtr (.t 19) (k' 0))] (.cond (.t 20) (q' 21 [am 3,aV 2] .ret) .skip)))) (g' 22 [aA 10]))))))) (q' 2 [ao (.mov (.k (.v false [.c (.i .i64 (-1))])))] .ret)))) [.t 2] [(59,[],a1a),(74,[],a4B)] ?_;intro hb hE;simp only [go_sem];repeat' first|apply cj'|intro hc|exact om'|fail
 ·rw [a0e,hc];rfl
 have hB:t6 p=true:=hc;clear hc;refine lq' false [1,9] [2] [] (fun i:{i:Nat // i<=p.Rules.length/\(p.Rules.take i).any a5k=false}=>[(10,slV (.i .i64 i.1))]) nl' nl' (fun i=>p.Rules.length - i.1) (⟨0,by simp⟩) ?_;intro S0 hS0 i;obtain ⟨i,hi,ha⟩:=i;simp only [go_sem,hS0];repeat' first|apply cj'|intro hc|exact om'|fail
 ·rw [a0e,hB,W4,a0f (p:=a5k) (d:=default) (i:=i) (by omega) ha (W8 hc)]
 ·exact nx0 ⟨i+1,by omega,t2 (p:=a5k) default (by omega) ha (V1 hc)⟩
 ·rw [a0e,hB,W4,y3 (by rwa [j1 (by omega)] at ha)]
noncomputable def a4A:CT:=j7 (fun (x:c5)=>b0O x)
@[go_sem] def c0h:=fun x0 x1=>nm' (fQ' a4A rfl ⟨x0,x1⟩)
set_option maxRecDepth 100000 in
def b6c (a b:ByteArray) (w:World):Calls Tryz.prog 103 #[.string a,.string b] w fun e w'=>e=.returned (.int .i64 (Lib.compareBytes a.data.toList b.data.toList))/\w' = w:=by
 go_enter Tryz.func103,Tryz.ntmps103
 go_wp2
 rw [run_callFunc_extern Tryz.func203 (by kernel_rfl) (by kernel_rfl) (by kernel_rfl) (e:=Extern.BytealgCompare.compare) (by kernel_rfl),Lib.run_compareString];simp only [Result.andThen];rw [Oper.upon_value]
 go_wp2
 go_ret
 exact ⟨rfl,rfl⟩
def a4J (a:List UInt8) (b:List UInt8):spZ 103 [(false,[.s a]),(false,[.s b])] [] (.one (false,[.i .i64 (Lib.compareBytes a b)])):=by
 unfold spZ A0d;refine ⟨by kernel_rfl, ?_⟩;intro F w vs fpa h _ _ hF;simp only [VsRd,VRd,C.RdVals,C.Rd] at h;obtain ⟨_,_,_,_,rfl,rfl,⟨_,hc,hr⟩,_,_,_,_,rfl,rfl,⟨_,hc',hr'⟩,rfl,rfl⟩:=h;simp only [V0,q0G] at hc hc';subst hc;subst hc';simp only [C.Rd] at hr hr';obtain ⟨rfl,h1,rfl⟩:=hr;obtain ⟨rfl,h2,rfl⟩:=hr';refine (b6c ⟨a.toArray⟩ ⟨b.toArray⟩ w).mono ?_;rintro e w' ⟨rfl,rfl⟩;refine ⟨F,_,[],[],rfl, ?_,rfl,⟨fun _ h=>h,fun _ h=>.inl h,hF,q0M,by simp,fun _ _ _=>rfl,V9 _,rfl,Tp.of rfl rfl,rfl⟩⟩;simp only [RRd,VRd];refine ⟨_,rfl, ?_⟩;unfold C.Rd;have hb:∀ x y:List UInt8,-1<=Lib.compareBytes x y/\Lib.compareBytes x y<=1:=by
  intro x
  induction x with
  | nil=>intro y;cases y<;>simp [Lib.compareBytes]
  | cons a x ih=>
    intro y;cases y with
    | nil=>simp [Lib.compareBytes]
    | cons b y=>
      simp only [Lib.compareBytes];repeat' split
      all_goals first|exact ih y|decide
 have:=hb a b;refine ⟨rfl, ?_,rfl⟩;rw [min_i64,max_i64];omega
noncomputable def a4v:CT:=j7 (fun (x:(List UInt8)×(List UInt8))=>a4J x.1 x.2)
@[go_sem] def b3z:=fun a b=>nm' (fQ' a4v rfl (a,b))
def cmp_lt:∀ x y:List UInt8,decide (Lib.compareBytes x y < 0)=Op.bytesLess x y:=by
 intro x
 induction x with
 | nil=>intro y;cases y<;>simp [Lib.compareBytes,Op.bytesLess]
 | cons a x ih=>
   intro y;cases y with
   | nil=>simp [Lib.compareBytes,Op.bytesLess]
   | cons b y=>
     simp only [Lib.compareBytes,Op.bytesLess];by_cases h1:a < b
     ·simp [h1]
     ·by_cases h2:b < a
      ·have:(a==b)=false:=by simp;rintro rfl;exact h1 h2
       simp [h1,h2,this]
      ·have:a=b:=by
        apply UInt8.toNat_inj.1;simp only [UInt8.lt_iff_toNat_lt] at h1 h2;omega
       simp [this,ih]
end Go.Aw
