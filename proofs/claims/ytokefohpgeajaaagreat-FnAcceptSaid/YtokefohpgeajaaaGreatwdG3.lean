/- Variables of terms, texts in order. No condition. -/
import Derived.Test.YtokefohpgeajaaaGreatwdS1
import Derived.Test.YtokefohpgeajaaaGreatqBx7wd
namespace Go.Aw
open Go.Proofs
attribute [local irreducible] aft blk lpK retK AW A0d
set_option linter.all false
set_option maxRecDepth 100000
abbrev sLt:List UInt8->List UInt8->Bool:=Op.bytesLess
def a3b {α:Type} (lt:α->α->Bool) (s:α) (t:List α):List α:=bif t.any (lt s) then t.takeWhile (fun x=>!lt s x)++s::t.dropWhile (fun x=>!lt s x) else t
def c8O {α:Type} {q:α->Bool} {t:List α} (h:∀ x∈t,q x=true):t.takeWhile q=t/\t.dropWhile q=[]:=by
 induction t with
 | nil=>exact ⟨rfl,rfl⟩
 | cons a t ih=>
   have ha:=h a (by simp);have:=ih fun x hx=>h x (by simp [hx])
   simp [q2E,q3W,ha,this.1,this.2]
def tw_app {α:Type} {q:α->Bool} {t u:List α} (h:∃ x∈t,q x=false):(t++u).takeWhile q=t.takeWhile q/\(t++u).dropWhile q=t.dropWhile q++u:=by
 induction t with
 | nil=>obtain ⟨x,hx,_⟩:=h;simp at hx
 | cons a t ih=>
   cases ha:q a with
   | false=>simp [q2E,q3W,ha]
   | true=>
     obtain ⟨x,hx,hq⟩:=h;have:=ih ⟨x,by
      rcases V5.1 hx with rfl|hx
      ·rw [ha] at hq;simp at hq
      ·exact hx,hq⟩
     simp [q2E,q3W,ha,this.1,this.2]
def a3k {α:Type} {lt:α->α->Bool} {s:α} {t:List α} (h:t.any (lt s)=false):∀ x∈t,(fun x=>!lt s x) x=true:=by
 intro x hx;rw [q2L] at h;have:=h x hx;simpa using this
def b9K {α:Type} {lt:α->α->Bool} {s:α} {t:List α} (h:t.any (lt s)=true):∃ x∈t,(fun x=>!lt s x) x=false:=by
 rw [q3A] at h;obtain ⟨x,hx,hp⟩:=h;exact ⟨x,hx,by simp [hp]⟩
def c0y {α:Type} {lt:α->α->Bool} {s x:α} {t:List α} (h:t.any (lt s)=true):a3b lt s (t++[x])=a3b lt s t++[x]:=by
 have e:=tw_app (u:=[x]) (b9K h);have h2:(t++[x]).any (lt s)=true:=by rw [q2J,h];rfl
 unfold a3b;rw [h,h2,e.1,e.2,W5,W5,q0B];rfl
def c4u {α:Type} {lt:α->α->Bool} {s x:α} {t:List α} (h:t.any (lt s)=false) (hx:lt s x=true):a3b lt s (t++[x])=a3b lt s t++[s]++[x]:=by
 have e:=c8O (a3k h);have h2:(t++[x]).any (lt s)=true:=by rw [q2J,h];simp [hx]
 unfold a3b;rw [h,h2,W5,W4];rw [List.takeWhile_append_of_pos (a3k h),List.dropWhile_append_of_pos (a3k h)];simp [q2E,q3W,hx]
def c8d {α:Type} {lt:α->α->Bool} {s x:α} {t:List α} (h:t.any (lt s)=false) (hx:lt s x=false):a3b lt s (t++[x])=a3b lt s t++[x]:=by
 have h2:(t++[x]).any (lt s)=false:=by rw [q2J,h];simp [hx]
 unfold a3b;rw [h,h2];rfl
def c0z {α:Type} [DecidableEq α] {lt:α->α->Bool} {s:α} {l:List α} (hm:¬ s∈l) (h:l.any (lt s)=true):a2B lt l s=a3b lt s l:=by
 rw [a2B,if_neg hm,a3b,h];rfl
def c0A {α:Type} [DecidableEq α] {lt:α->α->Bool} {s:α} {l:List α} (hm:¬ s∈l) (h:l.any (lt s)=false):a2B lt l s=a3b lt s l++[s]:=by
 have e:=c8O (a3k h);rw [a2B,if_neg hm,a3b,h,e.1,e.2];rfl
def c4v {α:Type} (lt:α->α->Bool) (s:α) (t:List α):(a3b lt s t).length<=t.length+1:=by
 unfold a3b;cases t.any (lt s) with
 | false=>simp
 | true=>
   have e:=congrArg List.length (q1Z (p:=fun x=>!lt s x) (l:=t));simp only [W2] at e;simp only [W5,W2,W7];omega
def put_len {α:Type} [DecidableEq α] (lt:α->α->Bool) (l:List α) (s:α):(a2B lt l s).length<=l.length+1:=by
 unfold a2B;split
 ·omega
 ·have e:=congrArg List.length (q1Z (p:=fun x=>!lt s x) (l:=l));simp only [W2] at e;simp only [W2,W7];omega
def a2k {α:Type} [DecidableEq α] (lt:α->α->Bool):∀ (r l:List α),(s5 lt l r).length<=l.length+r.length:=by
 intro r
 induction r with
 | nil=>intro l;exact V7 _
 | cons a r ih=>
   intro l;have:=ih (a2B lt l a);have:=put_len lt l a;simp only [s5,q2C,W7] at *;omega
def b7B {α:Type} [DecidableEq α] (lt:α->α->Bool) (l r:List α) (x:α):s5 lt l (r++[x])=a2B lt (s5 lt l r) x:=by
 simp [s5,q3S]
def a0k (t:c8):Bool:=!(t.Var==[])
def k6 (l:List c8):List (List UInt8):=(l.filter a0k).map c8.Var
def a6a (l:List c8):List (List UInt8):=s5 sLt [] (k6 l)
def c8T (l:List c8):Lib.compact (b0x sLt (k6 l))=a6a l:=
 a9T u1 (SS.puts u1 SS.nil) fun x=>by rw [a6a,a0o];simp
def a2m (l:List c8):(k6 l).length<=l.length:=b1o _ _ _
def a8i (l:List (List UInt8)) (v:List UInt8):l.contains v=l.any (fun x=>x==v):=by
 rw [List.contains_eq_any_beq];congr 1;funext x;exact Bool.eq_iff_iff.2 ⟨fun h=>by rw [beq_iff_eq] at h ⊢;exact h.symm,fun h=>by rw [beq_iff_eq] at h ⊢;exact h.symm⟩
def k_idxS (l:List (List UInt8)) (v:List UInt8):spZ 106 [(false,[a2N l]),(false,[.s v])] [] (.one (false,[.i .i64 (a3P (fun y=>v==y) l)])):=by
 refine sy' Tryz.func106 (q' 4 [aK 0] (.seq (q' 6 [am 0,aN,aK 0] (.block 0 (.loop (q' 9 [ar 8 7] (.seq (.cond (.t 9) .skip (.exit 0)) (.seq (.block 1 (q' 10 [am 8,aV 5] (q' 11 [aM [1,0,5],aI 1,aL,ao (.bin .eql (.t 11) (.t 15))] (.cond (.t 16) (q' 17 [am 5,aV 4] .ret) .skip)))) (g' 18 [aA 8]))))))) (q' 4 [ao (.mov (.k (.v false [.c (.i .i64 (-1))])))] .ret))) [.t 4] [] ?_;intro hb hE;simp only [go_sem];repeat' first|apply cj'|intro hc|exact om'|fail
 refine lq' false [0,1,7] [] [] (fun i:{i:Nat // i<=l.length/\(l.take i).any (fun y=>v==y)=false}=>[(8,slV (.i .i64 i.1))]) nl' nl' (fun i=>l.length - i.1) (⟨0,by simp⟩) ?_;intro S0 hS0 i;obtain ⟨i,hi,ha⟩:=i;simp only [go_sem,hS0];repeat' first|apply cj'|intro hc|exact om'|fail
 ·exact (a0g (p:=fun y=>v==y) (d:=[]) (by omega) ha hc).symm
 ·exact nx0 ⟨i+1,by omega,t2 (p:=fun y=>v==y) [] (by omega) ha hc⟩
 ·exact (y6 (by rwa [i8 (by omega)] at ha)).symm
noncomputable def b1b:CT:=j6 (fun (x:(List (List UInt8))×(List UInt8))=>k_idxS x.1 x.2)
@[go_sem] def b6X:=fun l v=>nm' (fQ' b1b rfl (l,v))
def k_conS (l:List (List UInt8)) (v:List UInt8):spZ 49 [(false,[a2N l]),(false,[.s v])] [] (.one (false,[.b (l.contains v)])):=by
 refine sy' Tryz.func49 (q' 0 [ab 4 false] (q' 5 [aM [0,1],ac 106 [5,6],ao (.bin .geq (.t 7) (k' 0)),aV 4] .ret)) [.t 4] [(106,[],b1b)] ?_;intro hb hE;simp only [go_sem];repeat' first|apply cj'|intro hc|exact om'|fail
 all_goals (rw [List.contains_eq_any_beq];exact a2h _ _)
noncomputable def c7H:CT:=j6 (fun (x:(List (List UInt8))×(List UInt8))=>k_conS x.1 x.2)
@[go_sem] def c_conS_eq:=fun l v=>nm' (fQ' c7H rfl (l,v))
def b6D (l:List (List UInt8)) (v:List UInt8):spZ 159 [(false,[a2N l]),(false,[.s v])] [] (.one (false,[.b (l.contains v)])):=by
 refine sy' Tryz.func159 (q' 0 [ab 4 false] (.seq (q' 7 [am 0,aN,aK 0] (.block 0 (.loop (q' 10 [ar 9 8] (.seq (.cond (.t 10) .skip (.exit 0)) (.seq (.block 1 (q' 11 [ai 1 7 9,aL,aV 6] (q' 13 [aM [6,1],ao (.bin .eql (.t 13) (.t 14))] (.cond (.t 15) (q' 0 [ab 4 true] .ret) .skip)))) (g' 16 [aA 9]))))))) (q' 0 [ab 4 false] .ret))) [.t 4] [] ?_;intro hb hE;simp only [go_sem];repeat' first|apply cj'|intro hc|exact om'|fail
 refine lq' false [1,7,8] [] [] (fun i:{i:Nat // i<=l.length/\(l.take i).any (fun x=>x==v)=false}=>[(9,slV (.i .i64 i.1))]) nl' nl' (fun i=>l.length - i.1) (⟨0,by simp⟩) ?_;intro S0 hS0 i;obtain ⟨i,hi,ha⟩:=i;simp only [go_sem,hS0];repeat' first|apply cj'|intro hc|exact om'|fail
 ·rw [a8i,any_true (d:=[]) (i:=i) (by omega) hc]
 ·exact nx0 ⟨i+1,by omega,t2 [] (by omega) ha hc⟩
 ·rw [a8i,<- ha,i8 (by omega)]
noncomputable def a4B:CT:=j6 (fun (x:(List (List UInt8))×(List UInt8))=>b6D x.1 x.2)
@[go_sem] def c5W:=fun l v=>nm' (fQ' a4B rfl (l,v))
@[go_sem] def a6p:ACode:=q' 4 [ao (.mov (.k (.v false [.nl [.s []]])))] (q' 9 [ao (.bsl 1 0 [.s] []),aV 5] (q' 0 [ab 6 false] (.seq (q' 10 [am 0,aN,aK 0] (.block 0 (.loop (q' 13 [ar 12
 11] (.seq (.cond (.t 13) .skip (.exit 0)) (.seq (.block 1 (q' 14 [ai 1 10 12,aL,aV 8] (.seq (q' 16 [aM [8,1],ao (.bin .eql (.t 16) (.t 17))] (.cond (.t 18)
 (q' 19 [am 0,aV 4] .ret) .skip)) (.seq (q' 20 [am 6,ao (.not (.t 20)),am 21,au (.mov (.t 1)) 22 true,au (.mov (.t 8)) 22 true,au (.bin .lss (.t 23) (.t 24))
 22 true,ao (.pick (.t 22) (.t 25) (bb false))] (.cond (.t 26) (q' 27 [aM [5,1],ao (.bsl 1 1 [.s] [(0,.t 28)]),ao (.app 1 16 [.s] (.t 27) (.t 29)),aV 5] (g' 0
 [ab 6 true])) .skip)) (g' 31 [aM [5,8],ao (.bsl 1 1 [.s] [(0,.t 32)]),ao (.app 1 16 [.s] (.t 31) (.t 33)),aV 5]))))) (g' 35 [aA 12]))))))) (.seq (q' 36 [am
 6,ao (.not (.t 36))] (.cond (.t 37) (g' 38 [aM [5,1],ao (.bsl 1 1 [.s] [(0,.t 39)]),ao (.app 1 16 [.s] (.t 38) (.t 40)),aV 5]) .skip)) (q' 42 [am 5,aV 4]
 .ret)))))
def b6E (l:List (List UInt8)) (s:List UInt8) (hpre:l.length < 1099511627776):spZ 313 [(false,[a2N l]),(false,[.s s])] [] (.one (false,[a2N (a2B sLt l s)])):=by
 refine sx' false true none Tryz.func313 a6p [.t 4] [] ?_;intro hb hE;simp only [go_sem];repeat' first|apply cj'|intro hc|exact om'|fail
 refine lk' false [(false,5,0,100010)] [0,1,10,11] [] [] (fun i:{i:Nat // i<=l.length/\¬ s∈l.take i}=>[(5,.v false [.ow 100010]),(6,slV (.b ((l.take i.1).any (sLt s)))),(12,slV (.i .i64 i.1))]) nl' (fun i=>[(100010,[.s []],(a3b sLt s (l.take i.1)).map w6)]) (fun i=>l.length - i.1) (⟨0,by simp⟩) ?_;intro S0 hS0 i;obtain ⟨i,hi,hm⟩:=i;simp only [go_sem,hS0];repeat' first|apply cj'|intro hc|exact om'|fail
 all_goals have hl:=c4v sLt s (l.take i)
 all_goals rw [q0L] at hl
 ·have hm2:s∈l:=by
   rw [beq_iff_eq] at hc;have:=v8 (l:=l) [] (i:=i) (by omega);rw [<- hc,this];exact q0U _
  rw [a2B,if_pos hm2]
 ·omega
 ·omega
 ·have hx:=i9 (l:=l) [] (i:=i) (by omega);have hn:¬ s∈l.take (i+1):=by rw [hx];simp only [V0,V6];rintro (h|h);exact hm h;subst h;simp at *
  have h1:(l.take (i+1)).any (sLt s)=true:=by rw [hx,q2J,hc.1,q2V,show sLt s (l.getD i [])=true from hc.2];rfl
  have h2:a3b sLt s (l.take (i+1))=a3b sLt s (l.take i)++[s]++[l.getD i []]:=by rw [hx,c4u hc.1 hc.2]
  (refine lpK_n2 (⟨i+1,by omega,hn⟩) _ (by simp only [go_sem];try rfl) ?_;simp only [go_sem,hS0]<;>repeat' first|apply V3|exact on'|fail)
  all_goals first|rw [h1]|rw [h2]
 ·omega
 ·have hx:=i9 (l:=l) [] (i:=i) (by omega);have hn:¬ s∈l.take (i+1):=by rw [hx];simp only [V0,V6];rintro (h|h);exact hm h;subst h;simp at *
  have h3:(l.take (i+1)).any (sLt s)=(l.take i).any (sLt s)/\a3b sLt s (l.take (i+1))=a3b sLt s (l.take i)++[l.getD i []]:=by
   rw [hx];cases h:(l.take i).any (sLt s) with
   | true=>exact ⟨by rw [q2J,h];rfl,c0y h⟩
   | false=>
     rw [h] at hc;have hc2:sLt s (l.getD i [])=false:=hc;exact ⟨by rw [q2J,h,q2V,hc2];rfl,c8d h hc2⟩
  (refine lpK_n2 (⟨i+1,by omega,hn⟩) _ (by simp only [go_sem];try rfl) ?_;simp only [go_sem,hS0]<;>repeat' first|apply V3|exact on'|fail)
  all_goals first|rw [h3.1]|rw [h3.2]
 ·omega
 ·rw [i8 (by omega)] at hc hm ⊢;rw [c0A hm hc]
 ·rw [i8 (by omega)] at hc hm ⊢;rw [c0z hm hc]
noncomputable def a8g:CT:=u2 (fun (x:(List (List UInt8))×(List UInt8)) h=>b6E x.1 x.2 h)
@[go_sem] def c5X:=fun l s=>nm' (fP' a8g rfl (l,s))
def b6s (l:List c8) (hpre:l.length < 1099511627776):spZ 229 [(false,[m0 l])] [] (.one (false,[a8m (a6a l)])):=by
 refine sy' Tryz.func229 (q' 2 [ao (.mov (.k (.v false [.nl [.s []]])))] (q' 6 [ao (.bsl 1 0 [.s] []),aV 3] (.seq (q' 7 [am 0,aN,aK 0] (.block 0 (.loop (q' 10 [ar 9 8] (.seq (.cond (.t 10) .skip (.exit 0)) (.seq (.block 1 (q' 11 [ai 3 7 9,aE 3,ax (w' 5 [.s,.i .i64,.s]),aS 3 5 12] (q' 13 [aG 0 5,ao (.bin .neq (.t 14) (.k (.v false [.c (.s [])])))] (.cond (.t 15) (g' 16 [am 3,aG 0 5,ao (.bsl 1 1 [.s] [(0,.t 18)]),ao (.app 1 16 [.s] (.t 16) (.t 19)),aV 3]) .skip)))) (g' 21 [aA 9]))))))) (q' 22 [am 3,ac 230 [22]] (q' 24 [am 3,ac 231 [24],aV 2] .ret))))) [.t 2] [(230,[0],b1g),(231,[0],b4o)] ?_;intro hb hE;simp only [go_sem];repeat' first|apply cj'|intro hc|exact om'|fail
 refine lk' false [(false,3,0,100006)] [7,8] [] [] (fun i:{i:Nat // i<=l.length}=>[(3,.v false [.ow 100006]),(9,slV (.i .i64 i.1))]) nl' (fun i=>[(100006,[.s []],(k6 (l.take i.1)).map w6)]) (fun i=>l.length - i.1) (⟨0,by simp⟩) ?_;intro S0 hS0 i;obtain ⟨i,hi⟩:=i;simp only [go_sem,hS0];repeat' first|apply cj'|intro hc|exact om'|fail
 all_goals have hl:=a2m (l.take i)
 all_goals rw [q0L] at hl
 ·omega
 ·(refine lpK_n2 (⟨i+1,by omega⟩) _ (by simp only [go_sem];try rfl) ?_;simp only [go_sem,hS0]<;>repeat' first|apply V3|exact on'|fail)
  all_goals rw [k6,k6,a8G (p:=a0k) c8.Var default (by omega) (by rw [a0k,hc];rfl)]
 ·(refine lpK_n2 (⟨i+1,by omega⟩) _ (by simp only [go_sem];try rfl) ?_;simp only [go_sem,hS0]<;>repeat' first|apply V3|exact on'|fail)
  all_goals rw [k6,k6,b4J (p:=a0k) c8.Var default (by omega) (by rw [a0k,hc];rfl)]
 ·omega
 ·rw [i8 (by omega),c8T]
noncomputable def a4z:CT:=u2 (fun (x:(List c8)) h=>b6s x h)
@[go_sem] def c5M:=fun l=>nm' (fP' a4z rfl l)
@[go_sem] def a4H:ACode:=q' 4 [ao (.mov (.k (.v false [.nl [.s []]])))] (.seq (q' 7 [am 1,aN,aK 0] (.block 0 (.loop (q' 10 [ar 9 8] (.seq (.cond (.t 10) .skip (.exit 0)) (.seq (.block 1
 (q' 11 [ai 3 7 9,aE 3,ax (w' 6 [.s,.i .i64,.s]),aS 3 6 12] (q' 13 [aG 0 6,ao (.bin .neq (.t 14) (.k (.v false [.c (.s [])])))] (.cond (.t 15) (g' 16 [am
 0,aG 0 6,ac 313 [16,18],aV 0]) .skip)))) (g' 20 [aA 9]))))))) (q' 21 [am 0,aV 4] .ret))
def b3i (a:List (List UInt8)) (l:List c8) (hpre:a.length+l.length < 1099511627776):spZ 250 [(false,[a2N a]),(false,[m0 l])] [] (.one (false,[a2N (s5 sLt a (k6 l))])):=by
 refine sx' false true none Tryz.func250 a4H [.t 4] [(313,[],a8g)] ?_;intro hb hE;simp only [go_sem];repeat' first|apply cj'|intro hc|exact om'|fail
 refine lq' false [7,8] [] [] (fun i:{i:Nat // i<=l.length}=>[(0,.v false [.c (a2N (s5 sLt a (k6 (l.take i.1))))]),(9,slV (.i .i64 i.1))]) nl' nl' (fun i=>l.length - i.1) (⟨0,by simp⟩) ?_;intro S0 hS0 i;obtain ⟨i,hi⟩:=i;simp only [go_sem,hS0];repeat' first|apply cj'|intro hc|exact om'|fail
 all_goals have hl:=a2m (l.take i)
 all_goals have hl2:=a2k sLt (k6 (l.take i)) a
 all_goals rw [q0L] at hl
 ·omega
 ·(refine lpK_n2 (⟨i+1,by omega⟩) _ rfl ?_;simp only [go_sem,hS0]<;>repeat' first|apply V3|exact on'|fail)
  all_goals rw [show k6 (l.take (i+1))=k6 (l.take i)++[(l.getD i default).Var] by rw [k6,k6,a8G (p:=a0k) c8.Var default (by omega) (by rw [a0k,hc];rfl)],b7B]
 ·(refine lpK_n2 (⟨i+1,by omega⟩) _ rfl ?_;simp only [go_sem,hS0]<;>repeat' first|apply V3|exact on'|fail)
  all_goals rw [show k6 (l.take (i+1))=k6 (l.take i) by rw [k6,k6,b4J (p:=a0k) c8.Var default (by omega) (by rw [a0k,hc];rfl)]]
 ·rw [i8 (by omega)]
noncomputable def a1z:CT:=u2 (fun (x:(List (List UInt8))×(List c8)) h=>b3i x.1 x.2 h)
@[go_sem] def a3L:=fun a l=>nm' (fP' a1z rfl (a,l))
def a5U (l:c7):Bool:=l.Kind==3&&l.Op==1
inductive Bd (r:c6):List UInt8->Prop
 | base {l:c7} {t:c8}:l∈r.Body->(l.Kind==1)=true->t∈l.Atom.Args->a0k t=true->Bd r t.Var
 | leftV {l:c7}:l∈r.Body->a5U l=true->a0k l.A=true->a0k l.B=false->Bd r l.A.Var
 | leftB {l:c7}:l∈r.Body->a5U l=true->a0k l.A=true->Bd r l.B.Var->Bd r l.A.Var
 | rightV {l:c7}:l∈r.Body->a5U l=true->a0k l.B=true->a0k l.A=false->Bd r l.B.Var
 | rightB {l:c7}:l∈r.Body->a5U l=true->a0k l.B=true->Bd r l.A.Var->Bd r l.B.Var
def a0d (out:List (List UInt8)) (t:c8):Bool:=t.Var==[] || out.contains t.Var
def a0j (out:List (List UInt8)) (l:c7):Prop:=a5U l=true->(a0d out l.A || a0d out l.B)=true->∀ x∈k6 [l.A,l.B],x∈out
def a3v (r:c6) (out:List (List UInt8)):Prop:=∀ l∈r.Body,(l.Kind==1)=true->∀ x∈k6 l.Atom.Args,x∈out
def a0C {l:List c8} {x:List UInt8}:x∈k6 l↔∃ t∈l,a0k t=true/\t.Var=x:=by
 simp only [k6,q1L,q1S,and_assoc]
def Bd.mem {r:c6} {out:List (List UInt8)} (hb:a3v r out) (hc:∀ l∈r.Body,a0j out l) {v:List UInt8} (h:Bd r v):v∈out:=by
 induction h with
 | base hl hk ht hv=>exact hb _ hl hk _ (a0C.2 ⟨_,ht,hv,rfl⟩)
 | leftV hl he hv hn=>
   refine hc _ hl he ?_ _ (a0C.2 ⟨_,by simp,hv,rfl⟩);simp only [a0k,q2I] at hn;simp [a0d,hn]
 | leftB hl he hv _ ih=>
   refine hc _ hl he ?_ _ (a0C.2 ⟨_,by simp,hv,rfl⟩);simp [a0d,ih]
 | rightV hl he hv hn=>
   refine hc _ hl he ?_ _ (a0C.2 ⟨_,q2H _ (V6.2 rfl),hv,rfl⟩);simp only [a0k,q2I] at hn;simp [a0d,hn]
 | rightB hl he hv _ ih=>
   refine hc _ hl he ?_ _ (a0C.2 ⟨_,q2H _ (V6.2 rfl),hv,rfl⟩);simp [a0d,ih]
def b0X (r:c6):List (List UInt8):=r.Body.flatMap fun l=>k6 l.Atom.Args++k6 [l.A,l.B]
def Bd.all {r:c6} {v:List UInt8} (h:Bd r v):v∈b0X r:=by
 have hm:∀ {l:c7} {x:List UInt8},l∈r.Body->(x∈k6 l.Atom.Args\/x∈k6 [l.A,l.B])->x∈b0X r:=fun hl hx=>q2Z.2 ⟨_,hl,V0.2 hx⟩
 cases h with
 | base hl hk ht hv=>exact hm hl (.inl (a0C.2 ⟨_,ht,hv,rfl⟩))
 | leftV hl he hv hn=>exact hm hl (.inr (a0C.2 ⟨_,by simp,hv,rfl⟩))
 | leftB hl he hv hn=>exact hm hl (.inr (a0C.2 ⟨_,by simp,hv,rfl⟩))
 | rightV hl he hv hn=>exact hm hl (.inr (a0C.2 ⟨_,q2H _ (V6.2 rfl),hv,rfl⟩))
 | rightB hl he hv hn=>exact hm hl (.inr (a0C.2 ⟨_,q2H _ (V6.2 rfl),hv,rfl⟩))
open Classical in
noncomputable def a1V (r:c6):List (List UInt8):=(s5 sLt [] (b0X r)).filter fun v=>decide (Bd r v)
def b6U (r:c6):SS sLt (a1V r):=SS.filter (SS.puts u1 SS.nil) _
open Classical in
def a5C {r:c6} {v:List UInt8}:v∈a1V r↔Bd r v:=by
 rw [a1V,q1S,a0o,W9];exact ⟨fun h=>h.2,fun h=>⟨.inr h.all,h⟩⟩
def c2A {r:c6} {out:List (List UInt8)} (hs:SS sLt out) (hB:∀ v∈out,Bd r v) (hb:a3v r out) (hc:∀ l∈r.Body,a0j out l):out=a1V r:=
 SS.uniq u1 hs (b6U r) fun x=>⟨fun h=>a5C.2 (hB x h),fun h=>(a5C.1 h).mem hb hc⟩
def c2z {r:c6} {out:List (List UInt8)} (hB:∀ v∈out,Bd r v) (hb:a3v r out) (hc:∀ l∈r.Body,a0j out l):Lib.compact (b0x sLt out)=a1V r:=
 a9T u1 (b6U r) fun x=>⟨fun h=>(a5C.1 h).mem hb hc,fun h=>a5C.2 (hB x h)⟩
def c8D {α:Type} [DecidableEq α] {lt:α->α->Bool} {l:List α} {s:α} (h:(a2B lt l s).length=l.length):s∈l:=by
 unfold a2B at h;split at h
 ·assumption
 ·have e:=congrArg List.length (q1Z (p:=fun x=>!lt s x) (l:=l));simp only [W2,W7] at e h;omega
def c8C {α:Type} [DecidableEq α] (lt:α->α->Bool) (l:List α) (s:α):l.length<=(a2B lt l s).length:=by
 unfold a2B;split
 ·omega
 ·have e:=congrArg List.length (q1Z (p:=fun x=>!lt s x) (l:=l));simp only [W2,W7] at e ⊢;omega
def c4H {α:Type} [DecidableEq α] (lt:α->α->Bool):∀ (r l:List α),l.length<=(s5 lt l r).length:=by
 intro r
 induction r with
 | nil=>intro l;exact V7 _
 | cons a r ih=>
   intro l;have:=ih (a2B lt l a);have:=c8C lt l a;simp only [s5,q2C] at *;omega
def c6y {α:Type} [DecidableEq α] {lt:α->α->Bool}:∀ {r l:List α},(s5 lt l r).length=l.length->s5 lt l r=l/\∀ x∈r,x∈l:=by
 intro r
 induction r with
 | nil=>intro l _;exact ⟨rfl,by simp⟩
 | cons a r ih=>
   intro l h;have h1:=c4H lt r (a2B lt l a);have h2:=c8C lt l a;simp only [s5,q2C] at h h1;have ha:a∈l:=c8D (lt:=lt) (by omega);have e:a2B lt l a=l:=by rw [a2B,if_pos ha]
   rw [e] at h;have h3:=ih (l:=l) h;simp only [s5,q2C,e];refine ⟨h3.1,fun x hx=>?_⟩;rcases V5.1 hx with rfl|hx
   ·exact ha
   ·exact h3.2 x hx
def a9x {r:c6} (h:j7 r=true):(b0X r).length<=64:=by
 have h8:r.Body.length<=8:=by
  simp only [j7,W1,W9] at h;omega
 have ha:∀ l∈r.Body,(k6 l.Atom.Args++k6 [l.A,l.B]).length<=8:=by
  intro l hl;simp only [j7,W1,q0M] at h;have hb:=h.2 l hl;have h1:=a2m l.Atom.Args;have h2:=a2m [l.A,l.B];have h6:l.Atom.Args.length<=6:=by
   rw [a0M] at hb;cases hk:(l.Kind==3)<;>rw [hk] at hb<;>simp only [W5,W4,W1,W9,beq_iff_eq,a0E] at hb<;>omega
  simp only [W2,W7,V8] at *;omega
 unfold b0X
 revert ha h8
 generalize r.Body=b;intro h8 ha;have:∀ b:List c7,(∀ l∈b,(k6 l.Atom.Args++k6 [l.A,l.B]).length<=8)->(b.flatMap fun l=>k6 l.Atom.Args++k6 [l.A,l.B]).length<=8 * b.length:=by
  intro b
  induction b with
  | nil=>intro _;simp
  | cons x b ih=>
    intro hb;have h1:=hb x (by simp);have h2:=ih fun l hl=>hb l (by simp [hl])
    simp only [q1M,W2,W7] at *;omega
 have:=this b ha;omega
def b3h (l:List (List UInt8)) (s:List UInt8) (hpre:l.length < 1099511627776):spZ 313 [(false,[a8m l]),(false,[.s s])] [] (.one (false,[a8m (a2B sLt l s)])):=by
 refine sy' Tryz.func313 a6p [.t 4] [] ?_;intro hb hE;simp only [go_sem];repeat' first|apply cj'|intro hc|exact om'|fail
 refine lk' false [(false,5,0,100010)] [0,1,10,11] [] [1] (fun i:{i:Nat // i<=l.length/\¬ s∈l.take i}=>[(5,.v false [.ow 100010]),(6,slV (.b ((l.take i.1).any (sLt s)))),(12,slV (.i .i64 i.1))]) nl' (fun i=>[(100010,[.s []],(a3b sLt s (l.take i.1)).map w6)]) (fun i=>l.length - i.1) (⟨0,by simp⟩) ?_;intro S0 hS0 i;obtain ⟨i,hi,hm⟩:=i;simp only [go_sem,hS0];repeat' first|apply cj'|intro hc|exact om'|fail
 all_goals have hl:=c4v sLt s (l.take i)
 all_goals rw [q0L] at hl
 ·have hm2:s∈l:=by
   rw [beq_iff_eq] at hc;have:=v8 (l:=l) [] (i:=i) (by omega);rw [<- hc,this];exact q0U _
  rw [a2B,if_pos hm2]
 ·omega
 ·omega
 ·have hx:=i9 (l:=l) [] (i:=i) (by omega);have hn:¬ s∈l.take (i+1):=by rw [hx];simp only [V0,V6];rintro (h|h);exact hm h;subst h;simp at *
  have h1:(l.take (i+1)).any (sLt s)=true:=by rw [hx,q2J,hc.1,q2V,show sLt s (l.getD i [])=true from hc.2];rfl
  have h2:a3b sLt s (l.take (i+1))=a3b sLt s (l.take i)++[s]++[l.getD i []]:=by rw [hx,c4u hc.1 hc.2]
  (refine lpK_n2 (⟨i+1,by omega,hn⟩) _ (by simp only [go_sem];try rfl) ?_;simp only [go_sem,hS0]<;>repeat' first|apply V3|exact on'|fail)
  all_goals first|rw [h1]|rw [h2]
 ·omega
 ·have hx:=i9 (l:=l) [] (i:=i) (by omega);have hn:¬ s∈l.take (i+1):=by rw [hx];simp only [V0,V6];rintro (h|h);exact hm h;subst h;simp at *
  have h3:(l.take (i+1)).any (sLt s)=(l.take i).any (sLt s)/\a3b sLt s (l.take (i+1))=a3b sLt s (l.take i)++[l.getD i []]:=by
   rw [hx];cases h:(l.take i).any (sLt s) with
   | true=>exact ⟨by rw [q2J,h];rfl,c0y h⟩
   | false=>
     rw [h] at hc;have hc2:sLt s (l.getD i [])=false:=hc;exact ⟨by rw [q2J,h,q2V,hc2];rfl,c8d h hc2⟩
  (refine lpK_n2 (⟨i+1,by omega,hn⟩) _ (by simp only [go_sem];try rfl) ?_;simp only [go_sem,hS0]<;>repeat' first|apply V3|exact on'|fail)
  all_goals first|rw [h3.1]|rw [h3.2]
 ·omega
 ·rw [i8 (by omega)] at hc hm ⊢;rw [c0A hm hc]
 ·rw [i8 (by omega)] at hc hm ⊢;rw [c0z hm hc]
noncomputable def a5P:CT:=u2 (fun (x:(List (List UInt8))×(List UInt8)) h=>b3h x.1 x.2 h)
@[go_sem] def c2P:=fun l s=>nm' (fP' a5P rfl (l,s))
def b0j (a:List (List UInt8)) (l:List c8) (hpre:a.length+l.length < 1099511627776):spZ 250 [(false,[a8m a]),(false,[m0 l])] [] (.one (false,[a8m (s5 sLt a (k6 l))])):=by
 refine sy' Tryz.func250 a4H [.t 4] [(313,[0],a5P)] ?_;intro hb hE;simp only [go_sem];repeat' first|apply cj'|intro hc|exact om'|fail
 refine lk' false [(false,0,0,100000)] [7,8] [] [] (fun i:{i:Nat // i<=l.length}=>[(0,.v false [.ow 100000]),(9,slV (.i .i64 i.1))]) nl' (fun i=>[(100000,[.s []],(s5 sLt a (k6 (l.take i.1))).map w6)]) (fun i=>l.length - i.1) (⟨0,by simp⟩) ?_;intro S0 hS0 i;obtain ⟨i,hi⟩:=i;simp only [go_sem,hS0];repeat' first|apply cj'|intro hc|exact om'|fail
 all_goals have hl:=a2m (l.take i)
 all_goals have hl2:=a2k sLt (k6 (l.take i)) a
 all_goals rw [q0L] at hl
 ·omega
 ·(refine lpK_n2 (⟨i+1,by omega⟩) _ (by simp only [go_sem];try rfl) ?_;simp only [go_sem,hS0]<;>repeat' first|apply V3|exact on'|fail)
  all_goals rw [show k6 (l.take (i+1))=k6 (l.take i)++[(l.getD i default).Var] by rw [k6,k6,a8G (p:=a0k) c8.Var default (by omega) (by rw [a0k,hc];rfl)],b7B]
 ·(refine lpK_n2 (⟨i+1,by omega⟩) _ (by simp only [go_sem];try rfl) ?_;simp only [go_sem,hS0]<;>repeat' first|apply V3|exact on'|fail)
  all_goals rw [show k6 (l.take (i+1))=k6 (l.take i) by rw [k6,k6,b4J (p:=a0k) c8.Var default (by omega) (by rw [a0k,hc];rfl)]]
 ·rw [i8 (by omega)]
noncomputable def a2d:CT:=u2 (fun (x:(List (List UInt8))×(List c8)) h=>b0j x.1 x.2 h)
@[go_sem] def a6S:=fun a l=>nm' (fP' a2d rfl (a,l))
@[go_sem] def l16T_pair (a:List (List UInt8)) (v1:List UInt8) (n1:Int) (s1 v2:List UInt8) (n2:Int) (s2:List UInt8):a2d [(false,[a8m a]),(false,[.sl false j4 [[.s v1,.i .i64 n1,.s s1],[.s v2,.i .i64 n2,.s s2]]])]=some (a.length+2 < 1099511627776,[],.one (false,[a8m (s5 sLt a (k6 [⟨v1,⟨n1,s1⟩⟩,⟨v2,⟨n2,s2⟩⟩]))])):=a6S a [⟨v1,⟨n1,s1⟩⟩,⟨v2,⟨n2,s2⟩⟩]
def b3m (w:List (List UInt8)) (t:c8):spZ 251 [(false,[a2N w]),(true,[.s t.Var,.i .i64 t.Val.N,.s t.Val.S])] [] (.one (false,[.b (a0d w t)])):=by
 refine sy' Tryz.func251 (q' 0 [ax (o' 3 (.box 3 (.t 1))),ab 4 false] (q' 5 [aG 0 3,ao (.bin .eql (.t 6) (.k (.v false [.c (.s [])]))),am 7,au (.mov (.t 0)) 8 false,au (.fa 0 (.t 3)) 8 false,au (.ld false 1 (.t 10)) 8 false,au (.call 159 [.t 9,.t 11]) 8 false,ao (.pick (.t 8) (bb true) (.t 12)),aV 4] .ret)) [.t 4] [(159,[],a4B)] ?_;intro hb hE;simp only [go_sem];repeat' first|apply cj'|intro hc|exact om'|fail
 all_goals rfl
noncomputable def a5T:CT:=j6 (fun (x:(List (List UInt8))×c8)=>b3m x.1 x.2)
@[go_sem] def c2T:=fun w x0 x1 x2=>nm' (fQ' a5T rfl (w,⟨x0,⟨x1,x2⟩⟩))
def ss_len {out l:List (List UInt8)} (hs:SS sLt out) (h:∀ v∈out,v∈l):out.length<=l.length:=by
 have e:out=(s5 sLt [] l).filter (fun v=>out.contains v):=SS.uniq u1 hs (SS.filter (SS.puts u1 SS.nil) _) fun x=>⟨fun hx=>q1S.2 ⟨a0o.2 (.inr (h x hx)),by simpa using hx⟩,fun hx=>by simpa using (q1S.1 hx).2⟩
 have e1:=congrArg List.length e;have e2:=q2F (fun v=>out.contains v) (s5 sLt [] l);have e3:=a2k sLt l [];simp only [V8] at e3;omega
def c2x {r:c6} (h:j7 r=true) {out:List (List UInt8)} (hs:SS sLt out) (hB:∀ v∈out,Bd r v):out.length<=64:=
 q1U (ss_len hs fun v hv=>(hB v hv).all) (a9x h)
def a5i {r:c6} (h:j7 r=true) {l:c7} (hl:l∈r.Body):l.Atom.Args.length<=6:=by
 simp only [j7,W1,q0M] at h;have hb:=h.2 l hl;rw [a0M] at hb;cases hk:(l.Kind==3)<;>rw [hk] at hb<;>simp only [W5,W4,W1,W9,beq_iff_eq,a0E] at hb<;>omega
def c3E {r:c6} {l:c7} (hl:l∈r.Body) (hk:(l.Kind==1)=true) {x:List UInt8} (hx:x∈k6 l.Atom.Args):Bd r x:=by
 obtain ⟨t,ht,hv,rfl⟩:=a0C.1 hx;exact Bd.base hl hk ht hv
def bd_step {r:c6} {l:c7} (hl:l∈r.Body) (he:a5U l=true) {out:List (List UInt8)} (hB:∀ v∈out,Bd r v) (hk:(a0d out l.A || a0d out l.B)=true) {x:List UInt8} (hx:x∈k6 [l.A,l.B]):Bd r x:=by
 obtain ⟨t,ht,hv,rfl⟩:=a0C.1 hx;have hA:a0d out l.A=true->a0k l.A=false\/Bd r l.A.Var:=by
  intro h;simp only [a0d,q1G,q2S] at h;rcases h with h|h
  ·exact .inl (by simp [a0k,h])
  ·exact .inr (hB _ h)
 have hBB:a0d out l.B=true->a0k l.B=false\/Bd r l.B.Var:=by
  intro h;simp only [a0d,q1G,q2S] at h;rcases h with h|h
  ·exact .inl (by simp [a0k,h])
  ·exact .inr (hB _ h)
 simp only [q1G] at hk;simp only [V5,q3U,or_false] at ht;rcases ht with rfl|rfl
 ·rcases hk with h|h
  ·rcases hA h with h|h
   ·rw [h] at hv;cases hv
   ·exact h
  ·rcases hBB h with h|h
   ·exact Bd.leftV hl he hv h
   ·exact Bd.leftB hl he hv h
 ·rcases hk with h|h
  ·rcases hA h with h|h
   ·exact Bd.rightV hl he hv h
   ·exact Bd.rightB hl he hv h
  ·rcases hBB h with h|h
   ·rw [h] at hv;cases hv
   ·exact h
def b1z (r:c6):spZ 157 [(true,[.i .i64 r.Kind,.s r.Head.Name,m0 r.Head.Args,a0W r.Body])] [] (.one (false,[a2N (bif j7 r then a1V r else [])])):=by
 refine sx' false true none Tryz.func157 (q' 1 [ao (.box 4 (.t 0)),ao (.mov (.k (.v false [.nl [.s []]])))] (q' 8 [ao (.bsl 1 0 [.s] []),aV 3] (.seq (q' 9 [ae 4 1,ac 73 [9],ao (.not (.t 10))] (.cond (.t 11) (q' 12 [am 3,aV 2] .ret) .skip)) (.seq (q' 13 [aG 3 1,aN,aK 0] (.block 0 (.loop (q' 17 [ar 16 15] (.seq (.cond (.t 17) .skip (.exit 0)) (.seq (.block 1 (q' 18 [am 16,aV 4] (q' 19 [aG 3 1,am 4,aI 10,aG 0 22,ao (.bin .eql (.t 24) (k' 1))] (.cond (.t 25) (g' 26 [am 3,aG 3 1,am 4,aI 10,aF 1,aG 1 31,ac 250 [26,33],aV 3]) .skip)))) (g' 35 [aA 16]))))))) (.seq (q' 5 [ao (.mov (.k (.v false [.c (.i .i64 (-1))])))] (.block 2 (.loop (.seq (q' 36 [aM [5,3],aN,ar 36 38] (.cond (.t 39) .skip (.exit 2))) (.block 3 (q' 40 [am 3,aN,aV 5] (q' 42 [aG 3 1,aN,aK 0] (.block 4 (.loop (q' 46 [ar 45 44] (.seq (.cond (.t 46) .skip (.exit 4)) (.seq (.block 5 (q' 47 [am 45,aV 6] (q' 48 [aG 3 1,am 6,aI 10,aE 10,ax (w' 7 [.i .i64,.s,.sl j4,.i .i64,.s,.i .i64,.s, .s,.i .i64,.s]),aS 10 7 52] (q' 53 [aG 0 7,ao (.bin .eql (.t 54) (k' 3)),am 55,au (.fa 3 (.t 7)) 56 true,au (.ld false 1 (.t 57)) 56 true,au (.bin .eql (.t 58) (k' 1)) 56 true,ao (.pick (.t 56) (.t 59) (bb false)),am 60,au (.mov (.t 3)) 61 true,au (.fa 4 (.t 7)) 61 true,au (.ld true 3 (.t 63)) 61 true,au (.call 251 [.t 62,.t 64]) 61 true,au (.mov (.t 65)) 61 true,au (.mov (.t 3)) 66 false,au (.fa 7 (.t 7)) 66 false,au (.ld true 3 (.t 68)) 66 false,au (.call 251 [.t 67,.t 69]) 66 false,au (.pick (.t 66) (bb true) (.t 70)) 61 true,ao (.pick (.t 61) (.t 71) (bb false))] (.cond (.t 72) (g' 73 [am 3,af 4 7,aE 3,af 7 7,aE 3,ao (.bsl 3 2 [.s,.i .i64,.s] [(0,.t 75),(1,.t 77)]),ac 250 [73,78],aV 3]) .skip))))) (g' 80 [aA 45]))))))))))))) (q' 81 [am 3,aV 2] .ret)))))) [.t 2] [(73,[],a1g),(250,[0],a2d),(251,[],a5T)] ?_;intro hb hE;simp only [go_sem];repeat' first|apply cj'|intro hc|exact om'|fail
 ·rw [hc];rfl
 have hR:j7 r=true:=hc;have hb8:r.Body.length<=8:=by
  simp only [j7,W1,W9] at hR;omega
 rw [hR];clear hc;refine lk' false [(false,3,0,100006)] [1,15] [2] [] (fun i:{p:Nat×List (List UInt8) // p.1<=r.Body.length/\SS sLt p.2/\(∀ v∈p.2,Bd r v)/\∀ l∈r.Body.take p.1,(l.Kind==1)=true->∀ x∈k6 l.Atom.Args,x∈p.2}=>[(3,.v false [.ow 100006]),(16,slV (.i .i64 i.1.1))]) nl' (fun i=>[(100006,[.s []],i.1.2.map w6)]) (fun i=>r.Body.length - i.1.1) (⟨(0,[]),by simp,SS.nil,by simp,by simp⟩) ?_;intro S0 hS0 i;obtain ⟨⟨i,o⟩,hi,hs,hB,hI⟩:=i;simp only at hi hs hB hI;have hlen:=c2x hR hs hB;simp only [go_sem,hS0];repeat' first|apply cj'|intro hc|exact om'|fail
 ·have:=a5i hR (l:=r.Body.getD i default) (by rw [v8 default (by omega)];exact q0U _);omega
 ·have hm:r.Body.getD i default∈r.Body:=by rw [v8 default (by omega)];exact q0U _
  have h2:∀ v∈s5 sLt o (k6 (r.Body.getD i default).Atom.Args),Bd r v:=fun v hv=>(a0o.1 hv).elim (hB v) (c3E hm hc)
  have h3:∀ l∈r.Body.take (i+1),(l.Kind==1)=true->∀ x∈k6 l.Atom.Args,x∈s5 sLt o (k6 (r.Body.getD i default).Atom.Args):=by
   intro l hl hk x hx;rw [i9 default (by omega),V0,V6] at hl;rcases hl with hl|rfl
   ·exact a0o.2 (.inl (hI l hl hk x hx))
   ·exact a0o.2 (.inr hx)
  exact nk0 ⟨(i+1,s5 sLt o (k6 (r.Body.getD i default).Atom.Args)),by simp only;omega,SS.puts u1 hs,h2,h3⟩
 ·have h3:∀ l∈r.Body.take (i+1),(l.Kind==1)=true->∀ x∈k6 l.Atom.Args,x∈o:=by
   intro l hl hk x hx;rw [i9 default (by omega),V0,V6] at hl;rcases hl with hl|rfl
   ·exact hI l hl hk x hx
   ·rw [hc] at hk;cases hk
  exact nk0 ⟨(i+1,o),by simp only;omega,hs,hB,h3⟩
 rw [i8 (by omega)] at hI;clear hc hi;refine lk' false [(false,3,0,100006)] [1] [2] [] (fun i:{p:Int×List (List UInt8) // -1<=p.1/\p.1<=p.2.length/\SS sLt p.2/\(∀ v∈p.2,Bd r v)/\a3v r p.2/\(p.1=p.2.length->∀ l∈r.Body,a0j p.2 l)}=>[(3,.v false [.ow 100006]),(5,slV (.i .i64 i.1.1))]) nl' (fun i=>[(100006,[.s []],i.1.2.map w6)]) (fun i=>(64 - i.1.1).toNat) (⟨(-1,o),by simp,by simp only;omega,hs,hB,hI,by intro h;simp only at h;omega⟩) ?_;intro S1 hS1 i;obtain ⟨⟨n,o1⟩,hn0,hn,hs1,hB1,hI1,hC1⟩:=i;simp only at hn0 hn hs1 hB1 hI1 hC1;have hlen1:=c2x hR hs1 hB1;simp only [go_sem,hS0,hS1];repeat' first|apply cj'|intro hc|exact om'|fail
 ·skip
  refine lk' false [(false,3,0,100006)] [1,5,44] [2] [] (fun i:{p:Nat×List (List UInt8) // p.1<=r.Body.length/\SS sLt p.2/\(∀ v∈p.2,Bd r v)/\a3v r p.2/\o1.length<=p.2.length/\(p.2.length=o1.length->∀ l∈r.Body.take p.1,a0j p.2 l)}=>[(3,.v false [.ow 100006]),(45,slV (.i .i64 i.1.1))]) nl' (fun i=>[(100006,[.s []],i.1.2.map w6)]) (fun i=>r.Body.length - i.1.1) (⟨(0,o1),by simp,hs1,hB1,hI1,by simp,by simp⟩) ?_;intro S2 hS2 i;obtain ⟨⟨i,o2⟩,hi,hs2,hB2,hI2,hge,hC2⟩:=i;simp only at hi hs2 hB2 hI2 hge hC2;have hlen2:=c2x hR hs2 hB2;simp only [go_sem,hS0,hS1,hS2];repeat' first|apply cj'|intro hc|exact om'|fail
  ·have hm:r.Body.getD i default∈r.Body:=by rw [v8 default (by omega)];exact q0U _
   have he:a5U (r.Body.getD i default)=true:=by rw [a5U,hc.1.1,hc.1.2];rfl
   have hk:(a0d o2 (r.Body.getD i default).A || a0d o2 (r.Body.getD i default).B)=true:=by rw [q1G];exact hc.2
   have hg:=c4H sLt (k6 [(r.Body.getD i default).A,(r.Body.getD i default).B]) o2;have h2:∀ v∈s5 sLt o2 (k6 [(r.Body.getD i default).A,(r.Body.getD i default).B]),Bd r v:=fun v hv=>(a0o.1 hv).elim (hB2 v) (bd_step hm he hB2 hk)
   have h3:a3v r (s5 sLt o2 (k6 [(r.Body.getD i default).A,(r.Body.getD i default).B])):=fun l hl hk x hx=>a0o.2 (.inl (hI2 l hl hk x hx))
   have h4:(s5 sLt o2 (k6 [(r.Body.getD i default).A,(r.Body.getD i default).B])).length=o1.length->∀ l∈r.Body.take (i+1),a0j (s5 sLt o2 (k6 [(r.Body.getD i default).A,(r.Body.getD i default).B])) l:=by
    intro hq l hl;have hs3:=c6y (lt:=sLt) (r:=k6 [(r.Body.getD i default).A,(r.Body.getD i default).B]) (l:=o2) (by omega);rw [hs3.1];rw [i9 default (by omega),V0,V6] at hl;rcases hl with hl|rfl
    ·exact hC2 (by omega) l hl
    ·exact fun _ _=>hs3.2
   (refine lpK_n2 (⟨(i+1,s5 sLt o2 (k6 [(r.Body.getD i default).A,(r.Body.getD i default).B])),by simp only;omega,SS.puts u1 hs2,h2,h3,by simp only;omega,h4⟩) _ (by simp only [go_sem,hS0,hS1];try rfl) ?_;simp only [go_sem,hS0,hS1,hS2]<;>repeat' first|apply V3|exact on'|fail)
  ·have h4:o2.length=o1.length->∀ l∈r.Body.take (i+1),a0j o2 l:=by
    intro hq l hl;rw [i9 default (by omega),V0,V6] at hl;rcases hl with hl|rfl
    ·exact hC2 hq l hl
    ·intro h5 h6;rw [a5U] at h5;rw [h5,h6] at hc;cases hc
   (refine lpK_n2 (⟨(i+1,o2),by simp only;omega,hs2,hB2,hI2,hge,h4⟩) _ (by simp only [go_sem,hS0,hS1];try rfl) ?_;simp only [go_sem,hS0,hS1,hS2]<;>repeat' first|apply V3|exact on'|fail)
  ·have h4:(o1.length:Int)=o2.length->∀ l∈r.Body,a0j o2 l:=by
    intro hq l hl;rw [i8 (by omega)] at hC2;exact hC2 (by omega) l hl
   (refine lpK_n2 (⟨((o1.length:Int),o2),by simp only;omega,by simp only;omega,hs2,hB2,hI2,h4⟩) _ (by simp only [go_sem,hS0,hS1];try rfl) ?_;simp only [go_sem,hS0,hS1,hS2]<;>repeat' first|apply V3|exact on'|fail)
 ·rw [c2A hs1 hB1 hI1 (hC1 (by omega))]<;>rfl
noncomputable def a4Q:CT:=j6 (fun (x:c6)=>b1z x)
@[go_sem] def c1G:=fun x0 x1 x2 x3=>nm' (fQ' a4Q rfl ⟨x0,⟨x1,x2⟩,x3⟩)
def a7g (r:c6) (out:List (List UInt8)):Nat:=((b0X r).filter fun v=>!out.contains v).length
def miss_le (r:c6) (out:List (List UInt8)):a7g r out<=(b0X r).length:=q2F _ _
def b7m {α:Type} {p q:α->Bool}:∀ {l:List α},(∀ x,q x=true->p x=true)->(∃ x∈l,p x=true/\q x=false)->(l.filter q).length < (l.filter p).length
 | [],_,h=>by obtain ⟨x,hx,_⟩:=h;simp at hx
 | a::l,hpq,h=>by
   have hle:(l.filter q).length<=(l.filter p).length:=by
    clear h
    induction l with
    | nil=>simp
    | cons b l ih=>
      have:=hpq b;cases hq:q b<;>cases hp:p b<;>simp_all<;>omega
   obtain ⟨x,hx,h1,h2⟩:=h;rcases V5.1 hx with rfl|hx
   ·simp only [List.filter_cons,h1,h2,if_true,q1N,if_false,W7];omega
   ·have ih:=b7m (l:=l) hpq ⟨x,hx,h1,h2⟩;have:=hpq a;cases hq:q a<;>cases hp:p a<;>simp_all<;>omega
def miss_lt {r:c6} {out:List (List UInt8)} {v:List UInt8} (hv:v∈b0X r) (hn:out.contains v=false):a7g r (out++[v]) < a7g r out:=by
 refine b7m (fun x hx=>?_) ⟨v,hv,by rw [hn];rfl,by simp⟩;simp only [q0P,List.contains_eq_mem,V0,q2Y,not_or] at hx ⊢;exact hx.1
def b7L (l:List c8):(a6a l).length<=l.length:=by
 have h1:=a2k sLt (k6 l) [];have h2:=a2m l;simp only [V8] at h1;unfold a6a;omega
def b7u {l:List c8} {x:List UInt8}:x∈a6a l↔x∈k6 l:=by
 rw [a6a,a0o];simp
def c6a {o:List (List UInt8)} {l:c7} (h0:a0d o l.B=true->a0k l.A=true->l.A.Var∈o) (h1:a0d o l.A=true->a0k l.B=true->l.B.Var∈o):a0j o l:=by
 intro _ hk x hx;obtain ⟨t,ht,hv,rfl⟩:=a0C.1 hx;have hs:∀ t:c8,a0k t=true->a0d o t=true->t.Var∈o:=by
  intro t hv h;simp only [a0d,q1G,q2S] at h;rcases h with h|h
  ·simp [a0k,h] at hv
  ·exact h
 simp only [V5,q3U,or_false] at ht;rw [q1G] at hk;rcases ht with rfl|rfl
 ·rcases hk with h|h
  ·exact hs _ hv h
  ·exact h0 h hv
 ·rcases hk with h|h
  ·exact h1 h hv
  ·exact hs _ hv h
def b9G {r:c6} (hV:(b0X r).length<=64) {o1 o3:List (List UInt8)} {g3:Bool} {v:List UInt8} (hl:o3.length+a7g r o3<=112) (hB:∀ v∈o3,Bd r v) (hI:a3v r o3) (hC:g3=false->o3=o1) (hM:g3=true->a7g r o3 < a7g r o1) (hv:Bd r v) (hn:o3.contains v=false):(o3++[v]).length+a7g r (o3++[v])<=112/\(∀ x∈o3++[v],Bd r x)/\a3v r (o3++[v])/\a7g r (o3++[v]) < a7g r o1:=by
 have h1:=miss_lt hv.all hn;refine ⟨by simp only [W2,W7,V8];omega,fun x hx=>?_,fun l hl hk x hx=>V0.2 (.inl (hI l hl hk x hx)), ?_⟩
 ·rcases V0.1 hx with h|h
  ·exact hB x h
  ·rw [V6.1 h];exact hv
 ·cases g3 with
  | false=>rw [hC rfl] at h1 ⊢;exact h1
  | true=>have:=hM rfl;omega
def b8D (r:c6) (hpre:j7 r=true):spZ 137 [(true,[.i .i64 r.Kind,.s r.Head.Name,m0 r.Head.Args,a0W r.Body])] [] (.one (false,[a8m (a1V r)])):=by
 refine sy' Tryz.func137 (q' 1 [ao (.box 4 (.t 0)),ao (.mov (.k (.v false [.nl [.s []]])))] (q' 12 [ao (.bsl 1 0 [.s] []),aV 3] (.seq (q' 13 [aG 3 1,aN,aK 0] (.block 0 (.loop (q' 17 [ar 16 15] (.seq (.cond (.t 17) .skip (.exit 0)) (.seq (.block 1 (q' 18 [ai 10 14 16,aE 10,ax (w' 5 [.i .i64,.s,.sl j4,.i .i64,.s,.i .i64,.s,.s,.i .i64,.s]),aS 10 5 19] (q' 20 [aG 0 5,ao (.bin .eql (.t 21) (k' 1))] (.cond (.t 22) (g' 23 [am 3,af 1 5,aG 1 24,ac 229 [26],ao (.app 1 16 [.s] (.t 23) (.t 27)),aV 3]) .skip)))) (g' 29 [aA 16]))))))) (.seq (q' 0 [ab 6 true] (.block 2 (.loop (.seq (q' 30 [am 6] (.cond (.t 30) .skip (.exit 2))) (.block 3 (q' 0 [ab 6 false] (q' 31 [aG 3 1,aN,aK 0] (.block 4 (.loop (q' 35 [ar 34 33] (.seq (.cond (.t 35) .skip (.exit 4)) (.seq (.block 5 (q' 36 [ai 10 32 34,aE 10,ax (w' 8 [.i .i64,.s,.sl j4,.i .i64,.s,.i .i64,.s,.s,.i .i64,.s]),aS 10 8 37] (.seq (q' 38 [aG 0 8,ao (.bin .neq (.t 39) (k' 3)),am 40,au (.fa 3 (.t 8)) 41 false,au (.ld false 1 (.t 42)) 41 false,au (.bin .neq (.t 43) (k' 1)) 41 false,ao (.pick (.t 41) (bb true) (.t 44))] (.cond (.t 45) (.exit 5) .skip)) (q' 46 [af 4 8,aE 3,af 7 8,aE 3,ao (.bld [.s,.i .i64,.s,.s,.i .i64,.s] [(0,3,.t 47),(3,3,.t 49)]),af 7 8,aE 3,af 4 8,aE 3,ao (.bld [.s,.i .i64,.s,.s,.i .i64,.s] [(0,3,.t 52),(3,3,.t 54)]),ao (.bsl 6 2 [.s,.i .i64,.s,.s,.i .i64,.s] [(0,.t 50),(1,.t 55)]),aN,aK 0] (.block 6 (.loop (q' 59 [ar 58 57] (.seq (.cond (.t 59) .skip (.exit 6)) (.seq (.block 7 (q' 60 [ai 6 56 58,aE 6,ax (w' 10 [.s,.i .i64,.s, .s,.i .i64,.s]),aS 6 10 61] (q' 62 [ao (.ib 2 3 (.t 10) (k' 1)),aG 0 62,ao (.bin .eql (.t 64) (.k (.v false [.c (.s [])]))),am 65,au (.mov (.t 3)) 66 false,au (.ib 2 3 (.t 10) (k' 1)) 66 false,au (.fa 0 (.t 68)) 66 false,au (.ld false 1 (.t 69)) 66 false,au (.call 49 [.t 67,.t 70]) 66 false,ao (.pick (.t 66) (bb true) (.t 71)),aV 11] (q' 73 [aM [11,73],au (.ib 2 3 (.t 10) (k' 0)) 74 true,au (.fa 0 (.t 75)) 74 true,au (.ld false 1 (.t 76)) 74 true,au (.bin .neq (.t 77) (.k (.v false [.c (.s [])]))) 74 true,ao (.pick (.t 74) (.t 78) (bb false)),am 79,au (.mov (.t 3)) 80 true,au (.ib 2 3 (.t 10) (k' 0)) 80 true,au (.fa 0 (.t 82)) 80 true,au (.ld false 1 (.t 83)) 80 true,au (.call 49 [.t 81,.t 84]) 80 true,au (.not (.t 85)) 80 true,ao (.pick (.t 80) (.t 86) (bb false))] (.cond (.t 87) (q' 88 [am 3,ao (.ib 2 3 (.t 10) (k' 0)),aG 0 89,ao (.bsl 1 1 [.s] [(0,.t 91)]),ao (.app 1 16 [.s] (.t 88) (.t 92)),aV 3] (g' 0 [ab 6 true])) .skip))))) (g' 94 [aA 58])))))))))) (g' 95 [aA 34]))))))))))))) (q' 96 [am 3,ac 230 [96]] (q' 98 [am 3,ac 231 [98],aV 2] .ret)))))) [.t 2] [(229,[],a4z),(49,[],c7H),(230,[0],b1g),(231,[0],b4o)] ?_;intro hb hE;have hb8:r.Body.length<=8:=by
  simp only [j7,W1,W9] at hpre;omega
 have hV:=a9x hpre;simp only [go_sem];repeat' first|apply cj'|intro hc|exact om'|fail
 refine lk' false [(false,3,0,100006)] [1,14,15] [2] [] (fun i:{p:Nat×List (List UInt8) // p.1<=r.Body.length/\p.2.length<=6 * p.1/\(∀ v∈p.2,Bd r v)/\∀ l∈r.Body.take p.1,(l.Kind==1)=true->∀ x∈k6 l.Atom.Args,x∈p.2}=>[(3,.v false [.ow 100006]),(16,slV (.i .i64 i.1.1))]) nl' (fun i=>[(100006,[.s []],i.1.2.map w6)]) (fun i=>r.Body.length - i.1.1) (⟨(0,[]),by simp,by simp,by simp,by simp⟩) ?_;intro S0 hS0 i;obtain ⟨⟨i,o⟩,hi,hlen,hB,hI⟩:=i;simp only at hi hlen hB hI;simp only [go_sem,hS0];repeat' first|apply cj'|intro hc|exact om'|fail
 ·have:=a5i hpre (l:=r.Body.getD i default) (by rw [v8 default (by omega)];exact q0U _);omega
 ·have:=a5i hpre (l:=r.Body.getD i default) (by rw [v8 default (by omega)];exact q0U _);have:=b7L (r.Body.getD i default).Atom.Args;omega
 ·have hm:r.Body.getD i default∈r.Body:=by rw [v8 default (by omega)];exact q0U _
  have h6:=a5i hpre hm;have hv6:=b7L (r.Body.getD i default).Atom.Args;have h2:∀ v∈o++a6a (r.Body.getD i default).Atom.Args,Bd r v:=fun v hv=>(V0.1 hv).elim (hB v) fun h=>c3E hm hc (b7u.1 h)
  have h3:∀ l∈r.Body.take (i+1),(l.Kind==1)=true->∀ x∈k6 l.Atom.Args,x∈o++a6a (r.Body.getD i default).Atom.Args:=by
   intro l hl hk x hx;rw [i9 default (by omega),V0,V6] at hl;rcases hl with hl|rfl
   ·exact V0.2 (.inl (hI l hl hk x hx))
   ·exact V0.2 (.inr (b7u.2 hx))
  (refine lpK_n2 (⟨(i+1,o++a6a (r.Body.getD i default).Atom.Args),by simp only;omega,by simp only [W2];omega,h2,h3⟩) _ (by simp only [go_sem];try rfl) ?_;simp only [go_sem,hS0]<;>repeat' first|apply V3|exact on'|fail)
  all_goals rw [q0Y]
 ·have h3:∀ l∈r.Body.take (i+1),(l.Kind==1)=true->∀ x∈k6 l.Atom.Args,x∈o:=by
   intro l hl hk x hx;rw [i9 default (by omega),V0,V6] at hl;rcases hl with hl|rfl
   ·exact hI l hl hk x hx
   ·rw [hc] at hk;cases hk
  exact nk0 ⟨(i+1,o),by simp only;omega,by simp only;omega,hB,h3⟩
 rw [i8 (by omega)] at hI;clear hc;have hms:=miss_le r o;refine lk' false [(false,3,0,100006)] [1] [2] [] (fun i:{p:Bool×List (List UInt8) // p.2.length+a7g r p.2<=112/\(∀ v∈p.2,Bd r v)/\a3v r p.2/\(p.1=false->∀ l∈r.Body,a0j p.2 l)}=>[(3,.v false [.ow 100006]),(6,slV (.b i.1.1))]) nl' (fun i=>[(100006,[.s []],i.1.2.map w6)]) (fun i=>2 * a7g r i.1.2+(bif i.1.1 then 1 else 0)) (⟨(true,o),by simp only;omega,hB,hI,by intro h;cases h⟩) ?_;intro S1 hS1 i;obtain ⟨⟨g,o1⟩,hl1,hB1,hI1,hC1⟩:=i;simp only at hl1 hB1 hI1 hC1;simp only [go_sem,hS0,hS1];repeat' first|apply cj'|intro hc|exact om'|fail
 ·skip
  refine lk' false [(false,3,0,100006)] [1,32,33] [2] [] (fun i:{p:Nat×Bool×List (List UInt8) // p.1<=r.Body.length/\p.2.2.length+a7g r p.2.2<=112/\(∀ v∈p.2.2,Bd r v)/\a3v r p.2.2/\(p.2.1=false->p.2.2=o1/\∀ l∈r.Body.take p.1,a0j o1 l)/\(p.2.1=true->a7g r p.2.2 < a7g r o1)}=>[(3,.v false [.ow 100006]),(6,slV (.b i.1.2.1)),(34,slV (.i .i64 i.1.1))]) nl' (fun i=>[(100006,[.s []],i.1.2.2.map w6)]) (fun i=>r.Body.length - i.1.1) (⟨(0,false,o1),by simp,hl1,hB1,hI1,by simp,by intro h;cases h⟩) ?_;intro S2 hS2 i;obtain ⟨⟨i,g2,o2⟩,hi2,hl2,hB2,hI2,hC2,hM2⟩:=i;simp only at hi2 hl2 hB2 hI2 hC2 hM2;simp only [go_sem,hS0,hS1,hS2];repeat' first|apply cj'|intro hc|exact om'|fail
  ·have h3:g2=false->o2=o1/\∀ l∈r.Body.take (i+1),a0j o1 l:=by
    intro hg;refine ⟨(hC2 hg).1,fun l hl=>?_⟩;rw [i9 default (by omega),V0,V6] at hl;rcases hl with hl|rfl
    ·exact (hC2 hg).2 l hl
    ·intro h5;simp only [a5U,W1] at h5;rcases hc with h|h
     ·simp only [bne,h5.1] at h;cases h
     ·simp only [bne,h5.2] at h;cases h
   (refine lpK_n2 (⟨(i+1,g2,o2),by simp only;omega,hl2,hB2,hI2,h3,hM2⟩) _ (by simp only [go_sem,hS0,hS1];try rfl) ?_;simp only [go_sem,hS0,hS1,hS2]<;>repeat' first|apply V3|exact on'|fail)
  ·skip
   refine lk' false [(false,3,0,100006)] [1,32,33,34,56,57] [2] [7168] (fun i:{p:Nat×Bool×List (List UInt8) // p.1<=2/\p.2.2.length+a7g r p.2.2<=112/\(∀ v∈p.2.2,Bd r v)/\a3v r p.2.2/\(p.2.1=false->p.2.2=o1/\(∀ l∈r.Body.take i,a0j o1 l)/\(0 < p.1->a0d o1 (r.Body.getD i default).B=true->a0k (r.Body.getD i default).A=true->(r.Body.getD i default).A.Var∈o1)/\(1 < p.1->a0d o1 (r.Body.getD i default).A=true->a0k (r.Body.getD i default).B=true->(r.Body.getD i default).B.Var∈o1))/\(p.2.1=true->a7g r p.2.2 < a7g r o1)}=>[(3,.v false [.ow 100006]),(6,slV (.b i.1.2.1)),(58,slV (.i .i64 i.1.1))]) nl' (fun i=>[(100006,[.s []],i.1.2.2.map w6)]) (fun i=>2 - i.1.1) (⟨(0,g2,o2),by simp,hl2,hB2,hI2,fun hg=>⟨(hC2 hg).1,(hC2 hg).2,by simp,by simp⟩,hM2⟩) ?_;intro S3 hS3 i;obtain ⟨⟨k,g3,o3⟩,hk3,hl3,hB3,hI3,hC3,hM3⟩:=i;simp only at hk3 hl3 hB3 hI3 hC3 hM3;have hm:r.Body.getD i default∈r.Body:=by rw [v8 default (by omega)];exact q0U _
   have he:a5U (r.Body.getD i default)=true:=by
    simp only [bne,q2I] at hc;rw [a5U,hc.1,hc.2];rfl
   rcases (show k=0\/k=1\/k=2 by omega) with rfl|rfl|rfl
   ·simp only [go_sem,hS0,hS1,hS2,hS3];repeat' first|apply cj'|intro hc|exact om'|fail
    ·have hv:Bd r (r.Body.getD i default).A.Var:=by
      rcases hc.1.1 with h|h
      ·exact Bd.leftV hm he (by rw [a0k,hc.1.2];rfl) (by rw [a0k,h];rfl)
      ·exact Bd.leftB hm he (by rw [a0k,hc.1.2];rfl) (hB3 _ (q2S.1 h))
     have ha:=b9G hV hl3 hB3 hI3 (fun hg=>(hC3 hg).1) hM3 hv hc.2
     (refine lpK_n2 (⟨(1,true,o3++[(r.Body.getD i default).A.Var]),by simp,ha.1,ha.2.1,ha.2.2.1,fun h=>absurd h (by simp),fun _=>ha.2.2.2⟩) _ (by simp only [go_sem,hS0,hS1,hS2];try rfl) ?_;simp only [go_sem,hS0,hS1,hS2,hS3]<;>repeat' first|apply V3|exact on'|fail)
     all_goals rw [q0Y];rfl
    ·have h9:g3=false->a0d o1 (r.Body.getD i default).B=true->a0k (r.Body.getD i default).A=true->(r.Body.getD i default).A.Var∈o1:=by
      intro hg h5 h6;rw [<- (hC3 hg).1] at h5 ⊢;rw [a0d] at h5;simp only [a0k] at h6;rw [h5,h6] at hc;simpa using hc
     (refine lpK_n2 (⟨(1,g3,o3),by simp,hl3,hB3,hI3,fun hg=>⟨(hC3 hg).1,(hC3 hg).2.1,fun _=>h9 hg,by simp⟩,hM3⟩) _ (by simp only [go_sem,hS0,hS1,hS2];try rfl) ?_;simp only [go_sem,hS0,hS1,hS2,hS3]<;>repeat' first|apply V3|exact on'|fail)
   ·simp only [go_sem,hS0,hS1,hS2,hS3];repeat' first|apply cj'|intro hc|exact om'|fail
    ·have hv:Bd r (r.Body.getD i default).B.Var:=by
      rcases hc.1.1 with h|h
      ·exact Bd.rightV hm he (by rw [a0k,hc.1.2];rfl) (by rw [a0k,h];rfl)
      ·exact Bd.rightB hm he (by rw [a0k,hc.1.2];rfl) (hB3 _ (q2S.1 h))
     have ha:=b9G hV hl3 hB3 hI3 (fun hg=>(hC3 hg).1) hM3 hv hc.2
     (refine lpK_n2 (⟨(2,true,o3++[(r.Body.getD i default).B.Var]),by simp,ha.1,ha.2.1,ha.2.2.1,fun h=>absurd h (by simp),fun _=>ha.2.2.2⟩) _ (by simp only [go_sem,hS0,hS1,hS2];try rfl) ?_;simp only [go_sem,hS0,hS1,hS2,hS3]<;>repeat' first|apply V3|exact on'|fail)
     all_goals rw [q0Y];rfl
    ·have h9:g3=false->a0d o1 (r.Body.getD i default).A=true->a0k (r.Body.getD i default).B=true->(r.Body.getD i default).B.Var∈o1:=by
      intro hg h5 h6;rw [<- (hC3 hg).1] at h5 ⊢;rw [a0d] at h5;simp only [a0k] at h6;rw [h5,h6] at hc;simpa using hc
     (refine lpK_n2 (⟨(2,g3,o3),by simp,hl3,hB3,hI3,fun hg=>⟨(hC3 hg).1,(hC3 hg).2.1,(fun _=>(hC3 hg).2.2.1 (by simp)),fun _=>h9 hg⟩,hM3⟩) _ (by simp only [go_sem,hS0,hS1,hS2];try rfl) ?_;simp only [go_sem,hS0,hS1,hS2,hS3]<;>repeat' first|apply V3|exact on'|fail)
   ·simp only [go_sem,hS0,hS1,hS2,hS3];repeat' first|apply cj'|intro hc|exact om'|fail
    have h9:g3=false->o3=o1/\∀ l∈r.Body.take (i+1),a0j o1 l:=by
     intro hg;obtain ⟨h5,h6,h7,h8⟩:=hC3 hg;refine ⟨h5,fun l hl=>?_⟩;rw [i9 default (by omega),V0,V6] at hl;rcases hl with hl|rfl
     ·exact h6 l hl
     ·exact c6a (h7 (by simp)) (h8 (by simp))
    (refine lpK_n2 (⟨(i+1,g3,o3),by simp only;omega,hl3,hB3,hI3,h9,hM3⟩) _ (by simp only [go_sem,hS0,hS1,hS2];try rfl) ?_;simp only [go_sem,hS0,hS1,hS2,hS3]<;>repeat' first|apply V3|exact on'|fail)
  ·have h3:g2=false->∀ l∈r.Body,a0j o2 l:=by
    intro hg l hl;have h5:=hC2 hg;rw [i8 (by omega)] at h5;rw [h5.1];exact h5.2 l hl
   cases g2 with
   | false=>
     have h7:=(hC2 rfl).1
     (refine lpK_n2 (⟨(false,o2),hl2,hB2,hI2,h3⟩) _ (by simp only [go_sem,hS0,hS1,hS2];try rfl) ?_;simp only [go_sem,hS0,hS1,hS2]<;>repeat' first|apply V3|exact on'|fail)
     all_goals (subst h7;rw [show g=true by assumption];simp only [W5];omega)
   | true=>
     have h7:=hM2 rfl
     (refine lpK_n2 (⟨(true,o2),hl2,hB2,hI2,h3⟩) _ (by simp only [go_sem,hS0,hS1,hS2];try rfl) ?_;simp only [go_sem,hS0,hS1,hS2]<;>repeat' first|apply V3|exact on'|fail)
     all_goals (rw [show g=true by assumption];simp only [W5];omega)
 ·rw [c2z hB1 hI1 (hC1 hc)]
noncomputable def a9N:CT:=u2 (fun (x:c6) h=>b8D x h)
@[go_sem] def c6W:=fun x0 x1 x2 x3=>nm' (fP' a9N rfl ⟨x0,⟨x1,x2⟩,x3⟩)
end Go.Aw
namespace Go.Aw
open Go.Proofs Go.Shelf Go.RowKit
attribute [local irreducible] aft blk lpK retK AW A0d
set_option linter.all false
set_option maxRecDepth 100000
def a3T (l:c7):List c8:=bif l.Kind==3 then [l.A,l.B] else l.Atom.Args
def c3t (r:c6):List c8:=r.Head.Args++r.Body.flatMap a3T
def a4o (r:c6):List (List UInt8):=s5 sLt [] (k6 r.Head.Args++b0X r)
def c1t (a b:List c8):k6 (a++b)=k6 a++k6 b:=by simp [k6]
def c3v {l:c7} (h:a0M l=true):k6 (a3T l)=k6 l.Atom.Args++k6 [l.A,l.B]:=by
 rw [a0M] at h;rw [a3T];cases hk:(l.Kind==3) with
 | true=>
   rw [hk] at h;simp only [W5,W1,beq_iff_eq] at h ⊢;have:l.Atom.Args=[]:=q0G.1 (by omega);rw [this];rfl
 | false=>
   rw [hk] at h;simp only [W4,W1,b5R,beq_iff_eq] at h ⊢;have h1:a0k l.A=false:=by simp [a0k,h.1.2.1]
   have h2:a0k l.B=false:=by simp [a0k,h.2.1]
   simp [k6,h1,h2]
def b7K:∀ {b:List c7},(∀ l∈b,a0M l=true)->k6 (b.flatMap a3T)=b.flatMap fun l=>k6 l.Atom.Args++k6 [l.A,l.B]
 | [],_=>rfl
 | l::b,h=>by
   rw [q1M,q1M,c1t,c3v (h l (by simp)),b7K fun x hx=>h x (by simp [hx])]
def b5M {r:c6} (h:j7 r=true):∀ l∈r.Body,a0M l=true:=by
 simp only [j7,W1,q0M] at h;exact h.2
def c8U {r:c6} (h:j7 r=true):a6a (c3t r)=a4o r:=by
 rw [a6a,c3t,c1t,b7K (b5M h),a4o,b0X]
def b5S {l:c7} (h:a0M l=true):(a3T l).length<=6:=by
 rw [a0M] at h;rw [a3T];cases hk:(l.Kind==3) with
 | true=>simp
 | false=>
   rw [hk] at h;simp only [W4,W1,W9,a0E] at h ⊢;omega
def b7J:∀ {b:List c7},(∀ l∈b,a0M l=true)->(b.flatMap a3T).length<=6 * b.length
 | [],_=>by simp
 | l::b,h=>by
   have h1:=b5S (h l (by simp));have h2:=b7J (b:=b) fun x hx=>h x (by simp [hx])
   simp only [q1M,W2,W7];omega
def a9X {r:c6} (h:j7 r=true):r.Head.Args.length<=6/\r.Body.length<=8:=by
 simp only [j7,W1,W9,a0E] at h;omega
noncomputable def looseL (r:c6):List (List UInt8):=(a4o r).filter fun v=>!(a1V r).contains v
noncomputable def b0l (r:c6):List (List UInt8):=bif j7 r then looseL r else []
def c6K {r:c6} (h:j7 r=true):(a4o r).length<=128:=by
 have h1:=a2k sLt (k6 r.Head.Args++b0X r) [];have h2:=a2m r.Head.Args;have h3:=a9x h;have h4:=a9X h;simp only [W2,V8] at h1;rw [a4o];omega
def c0B (l:List c8) (hpre:l.length < 1099511627776):spZ 233 [(false,[.sl false [.s [],.i .i64 0,.s []] (l.map c8.cells)])] [] (.one (false,[.sl true [.s [],.i .i64 0,.s []] (l.map c8.cells)])):=by
 exact c5Z (d:=[.s [],.i .i64 0,.s []]) Tryz.cloneTerm (by kernel_rfl) (hi:=rfl) (hz0:=rfl) (hz1:=rfl) (bytes:=40) (hz2:=rfl) (hzs:=rfl) (by decide) (fun w=>rfl) _ (by rw [q1W];omega)
noncomputable def b2d:CT:=u2 (fun (x:(List c8)) h=>c0B x h)
@[go_sem] def c7G:=fun l=>nm' (fP' b2d rfl l)
def b5c (l:c7):spZ 234 [(true,[.i .i64 l.Kind,.s l.Atom.Name,m0 l.Atom.Args,.i .i64 l.Op,.s l.A.Var,.i .i64 l.A.Val.N,.s l.A.Val.S,.s l.B.Var,.i .i64 l.B.Val.N,.s l.B.Val.S])] [] (.one (false,[m0 (a3T l)])):=by
 refine sx' false true none Tryz.func234 (q' 1 [ao (.box 10 (.t 0)),ao (.mov (.k (.v false [.nl j4])))] (.seq (q' 3 [aG 0 1,ao (.bin .eql (.t 4) (k' 3))] (.cond (.t 5) (q' 6 [af 4 1,aE 3,af 7 1,aE 3,ao (.bsl 3 2 [.s,.i .i64,.s] [(0,.t 7),(1,.t 9)]),aV 2] .ret) .skip)) (q' 11 [af 1 1,aG 1 11,aV 2] .ret))) [.t 2] [] ?_;intro hb hE;simp only [go_sem];repeat' first|apply cj'|intro hc|exact om'|fail
 all_goals (rw [a3T,hc];rfl)
noncomputable def a6I:CT:=j6 (fun (x:c7)=>b5c x)
@[go_sem] def c3T:=fun x0 x1 x2 x3 x4 x5 x6 x7 x8 x9=>nm' (fQ' a6I rfl ⟨x0,⟨x1,x2⟩,x3,⟨x4,⟨x5,x6⟩⟩,⟨x7,⟨x8,x9⟩⟩⟩)
def b4H {β:Type} (f:c7->List β) {b:List c7} {i:Nat} (h:i < b.length):(b.take (i+1)).flatMap f=(b.take i).flatMap f++f (b.getD i default):=by
 rw [i9 default h,List.flatMap_append];simp
def b6t (r:c6) (hpre:j7 r=true):spZ 139 [(true,[.i .i64 r.Kind,.s r.Head.Name,m0 r.Head.Args,a0W r.Body])] [] (.one (false,[a8m (a4o r)])):=by
 refine sy' Tryz.func139 (q' 1 [ao (.box 4 (.t 0)),ao (.mov (.k (.v false [.nl [.s []]])))] (q' 6 [af 1 1,aG 1 6,ac 233 [8],aV 3] (.seq (q' 10 [aG 3 1,aN,aK 0] (.block 0 (.loop (q' 14 [ar 13 12] (.seq (.cond (.t 14) .skip (.exit 0)) (.seq (.block 1 (q' 15 [ai 10 11 13,aE 10,ax (w' 5 [.i .i64,.s,.sl j4,.i .i64,.s, .i .i64,.s,.s,.i .i64,.s]),aS 10 5 16] (g' 17 [am 3,ae 10 5,ac 234 [18],ao (.app 3 40 [.s,.i .i64,.s] (.t 17) (.t 19)),aV 3]))) (g' 21 [aA 13]))))))) (q' 22 [am 3,ac 229 [22],aV 2] .ret)))) [.t 2] [(233,[],b2d),(234,[],a6I),(229,[],a4z)] ?_;intro hb hE;have hh:=a9X hpre;have hL:=b5M hpre;simp only [go_sem];repeat' first|apply cj'|intro hc|exact om'|fail
 refine lk' false [(false,3,0,100006)] [11,12] [] [] (fun i:{i:Nat // i<=r.Body.length}=>[(3,.v false [.ow 100006]),(13,slV (.i .i64 i.1))]) nl' (fun i=>[(100006,j4,(r.Head.Args++(r.Body.take i.1).flatMap a3T).map c8.cells)]) (fun i=>r.Body.length - i.1) (⟨0,by simp⟩) ?_;intro S0 hS0 i;obtain ⟨i,hi⟩:=i;have h1:=b7J (b:=r.Body.take i) fun l hl=>hL l (q2W hl)
 rw [q0L] at h1;simp only [go_sem,hS0];repeat' first|apply cj'|intro hc|exact om'|fail
 all_goals first
  | (have h2:=b5S (hL _ (A3w (d:=default) (show i < r.Body.length by omega)));(try simp only [W2] at *);omega)
  | ((refine lpK_n2 (⟨i+1,by omega⟩) _ (by simp only [go_sem];try rfl) ?_;simp only [go_sem,hS0]<;>repeat' first|apply V3|exact on'|fail);rw [b4H a3T (by omega)];simp only [q0Y,q0B];done)
  | (rw [i8 (by omega),<- c8U hpre,c3t];done)
  | ((try simp only [W2] at *);omega)
  | trace_state
noncomputable def a7Z:CT:=u2 (fun (x:c6) h=>b6t x h)
@[go_sem] def c5N:=fun x0 x1 x2 x3=>nm' (fP' a7Z rfl ⟨x0,⟨x1,x2⟩,x3⟩)
@[go_sem] def l16T_nil (l:List c8):a1z [(false,[.sl false [.s []] []]),(false,[m0 l])]=some (0+l.length < 1099511627776,[],.one (false,[a2N (s5 sLt [] (k6 l))])):=a3L [] l
@[go_sem] def l16T_two (a:List (List UInt8)) (v1:List UInt8) (n1:Int) (s1 v2:List UInt8) (n2:Int) (s2:List UInt8):a1z [(false,[a2N a]),(false,[.sl false j4 [[.s v1,.i .i64 n1,.s s1],[.s v2,.i .i64 n2,.s s2]]])]=some (a.length+2 < 1099511627776,[],.one (false,[a2N (s5 sLt a (k6 [⟨v1,⟨n1,s1⟩⟩,⟨v2,⟨n2,s2⟩⟩]))])):=a3L a [⟨v1,⟨n1,s1⟩⟩,⟨v2,⟨n2,s2⟩⟩]
def c6x (l r s:List (List UInt8)):s5 sLt (s5 sLt l r) s=s5 sLt l (r++s):=by simp [s5,q3S]
def b6x (r:c6):spZ 158 [(true,[.i .i64 r.Kind,.s r.Head.Name,m0 r.Head.Args,a0W r.Body])] [] (.one (false,[a2N (bif j7 r then a4o r else [])])):=by
 refine sx' false true none Tryz.func158 (q' 1 [ao (.box 4 (.t 0)),ao (.mov (.k (.v false [.nl [.s []]])))] (q' 5 [ao (.bsl 1 0 [.s] []),aV 3] (.seq (q' 6 [ae 4 1,ac 73 [6],ao (.not (.t 7))] (.cond (.t 8) (q' 9 [am 3,aV 2] .ret) .skip)) (q' 10 [am 3,af 1 1,aG 1 11,ac 250 [10,13],aV 3] (.seq (q' 15 [aG 3 1,aN,aK 0] (.block 0 (.loop (q' 19 [ar 18 17] (.seq (.cond (.t 19) .skip (.exit 0)) (.seq (.block 1 (q' 20 [am 18,aV 4] (q' 21 [am 3,aG 3 1,am 4,aI 10,aF 1,aG 1 26,ac 250 [21,28],aV 3] (.rego [(true,0,m' 30 3),(true,1,f' 31 3 1),(true,2,l' 32 31),(true,3,m' 33 4),(true,4,i' 34 10 32 33),(true,5,f' 35 4 34),(true,6,e' 36 3 35),(true,7,f' 37 3 1),(true,8,l' 38 37),(false,9,m' 39 4),(false,10,i' 40 10 38 39),(false,11,f' 41 7 40),(false,12,e' 42 3 41),(false,13,o' 43 (.bsl 3 2 [.s, .i .i64,.s] [(0,.t 36),(1,.t 42)])),(false,14,c' 44 250 [30,43]),(false,15,m' 3 44)] [2,3])))) (g' 45 [aA 18]))))))) (q' 46 [am 3,aV 2] .ret)))))) [.t 2] [(73,[],a1g),(250,[],a1z)] ?_;intro hb hE;simp only [go_sem];repeat' first|apply cj'|intro hc|exact om'|fail
 ·rw [hc];rfl
 ·have:=a9X hc;omega
 have hR:j7 r=true:=hc;have hh:=a9X hR;have hA:=a9x hR;rw [hR];clear hc;refine lq' false [1,17] [2,3] [] (fun i:{i:Nat // i<=r.Body.length}=>[(3,.v false [.c (a2N (s5 sLt [] (k6 r.Head.Args++(r.Body.take i.1).flatMap fun l=>k6 l.Atom.Args++k6 [l.A,l.B])))]),(18,slV (.i .i64 i.1))]) nl' nl' (fun i=>r.Body.length - i.1) (⟨0,by simp⟩) ?_;intro S0 hS0 i;obtain ⟨i,hi⟩:=i;have hp:=a2k sLt (k6 r.Head.Args++(r.Body.take i).flatMap fun l=>k6 l.Atom.Args++k6 [l.A,l.B]) [];have hv:=a2m r.Head.Args;have hf:((r.Body.take i).flatMap fun l=>k6 l.Atom.Args++k6 [l.A,l.B]).length<=64:=by
  refine q1U ?_ hA;have e:b0X r=((r.Body.take i).flatMap fun l=>k6 l.Atom.Args++k6 [l.A,l.B])++(r.Body.drop i).flatMap fun l=>k6 l.Atom.Args++k6 [l.A,l.B]:=by
   rw [<- List.flatMap_append,q1E];rfl
  rw [e,W2];omega
 simp only [W2,V8] at hp;have h2:=a2k sLt (k6 (r.Body.getD i default).Atom.Args) (s5 sLt [] (k6 r.Head.Args++(r.Body.take i).flatMap fun l=>k6 l.Atom.Args++k6 [l.A,l.B]));have h3:=a2m (r.Body.getD i default).Atom.Args;simp only [go_sem,hS0];repeat' first|apply cj'|intro hc|exact om'|fail
 all_goals first
  | (have hq:=a5i hR (A3w (d:=default) (show i < r.Body.length by omega));omega)
  | ((refine lpK_n2 (⟨i+1,by omega⟩) _ rfl ?_;simp only [go_sem,hS0]<;>repeat' first|apply V3|exact on'|fail);rw [show ((r.Body.take (i+1)).flatMap fun l=>k6 l.Atom.Args++k6 [l.A,l.B])=_ from b4H _ (by omega)];simp only [c6x,q0B];done)
  | ((refine lpK_n2 (⟨i+1,by omega⟩) _ rfl ?_;simp only [go_sem,hS0]<;>repeat' first|apply V3|exact on'|fail);trace_state)
  | (rw [i8 (by omega)];rfl)
  | trace_state
noncomputable def a8d:CT:=j6 (fun (x:c6)=>b6x x)
@[go_sem] def c5R:=fun x0 x1 x2 x3=>nm' (fQ' a8d rfl ⟨x0,⟨x1,x2⟩,x3⟩)
def b1B (r:c6):spZ 74 [(true,[.i .i64 r.Kind,.s r.Head.Name,m0 r.Head.Args,a0W r.Body])] [] (.one (false,[a2N (b0l r)])):=by
 refine sx' false true none Tryz.func74 (q' 1 [ao (.box 4 (.t 0)),ao (.mov (.k (.v false [.nl [.s []]])))] (q' 7 [ae 4 1,ac 157 [7],aV 3] (q' 9 [ao (.bsl 1 0 [.s] []),aV 4] (.seq (q' 10 [ae 4 1,ac 158 [10],aN,aK 0] (.block 0 (.loop (q' 14 [ar 13 12] (.seq (.cond (.t 14) .skip (.exit 0)) (.seq (.block 1 (q' 15 [ai 1 11 13,aL,aV 6] (q' 17 [aM [3,6],ac 159 [17,18],ao (.not (.t 19))] (.cond (.t 20) (g' 21 [aM [4,6],ao (.bsl 1 1 [.s] [(0,.t 22)]),ao (.app 1 16 [.s] (.t 21) (.t 23)),aV 4]) .skip)))) (g' 25 [aA 13]))))))) (q' 26 [am 4,aV 2] .ret))))) [.t 2] [(157,[],a4Q),(158,[],a8d),(159,[],a4B)] ?_;intro hb hE;have hlv:(bif j7 r then a4o r else []).length<=128:=by
  cases h:j7 r with
  | true=>exact c6K h
  | false=>exact q1Y _
 simp only [go_sem];repeat' first|apply cj'|intro hc|exact om'|fail
 refine lk' false [(false,4,0,100008)] [3,11,12] [] [] (fun i:{i:Nat // i<=(bif j7 r then a4o r else []).length}=>[(4,.v false [.ow 100008]),(13,slV (.i .i64 i.1))]) nl' (fun i=>[(100008,[.s []],(((bif j7 r then a4o r else []).take i.1).filter fun v=>!(bif j7 r then a1V r else []).contains v).map w6)]) (fun i=>(bif j7 r then a4o r else []).length - i.1) (⟨0,by simp⟩) ?_;intro S0 hS0 i;obtain ⟨i,hi⟩:=i;have hf:=q2F (fun v=>!(bif j7 r then a1V r else []).contains v) ((bif j7 r then a4o r else []).take i);rw [q0L] at hf;simp only [go_sem,hS0];repeat' first|apply cj'|intro hc|exact om'|fail
 all_goals first
  | omega
  | (have hc2:(fun v=>!(bif j7 r then a1V r else []).contains v) ((bif j7 r then a4o r else []).getD i [])=true:=by (first|exact hc|(simpa [-List.getD_eq_getElem?_getD] using hc))
     (refine lpK_n2 (⟨i+1,by omega⟩) _ (by simp only [go_sem];try rfl) ?_;simp only [go_sem,hS0]<;>repeat' first|apply V3|exact on'|fail)
     rw [f_yes (p:=fun v=>!(bif j7 r then a1V r else []).contains v) [] (by omega) hc2];done)
  | (have hc2:(fun v=>!(bif j7 r then a1V r else []).contains v) ((bif j7 r then a4o r else []).getD i [])=false:=by (first|exact hc|(simpa [-List.getD_eq_getElem?_getD] using hc))
     (refine lpK_n2 (⟨i+1,by omega⟩) _ (by simp only [go_sem];try rfl) ?_;simp only [go_sem,hS0]<;>repeat' first|apply V3|exact on'|fail)
     rw [f_no (p:=fun v=>!(bif j7 r then a1V r else []).contains v) [] (by omega) hc2];done)
  | (rw [i8 (by omega),b0l];cases h:j7 r<;>rfl)
  | trace_state
noncomputable def a4S:CT:=j6 (fun (x:c6)=>b1B x)
@[go_sem] def c1I:=fun x0 x1 x2 x3=>nm' (fQ' a4S rfl ⟨x0,⟨x1,x2⟩,x3⟩)
def b8m (k:List (List UInt8)) (x:List UInt8):Lib.containsS (k.map fun s=>(⟨s.toArray⟩:ByteArray)) ⟨x.toArray⟩=k.contains x:=by
 rw [Bool.eq_iff_iff,Lib.containsS_iff,q2S,q1L];constructor
 ·rintro ⟨s,hs,e⟩;have e2:s.toArray=x.toArray:=ByteArray.mk.inj e;have:s=x:=by simpa using e2
  exact this▸hs
 ·intro h;exact ⟨x,h,rfl⟩
def c3k (b o n cap:Nat) (a:Option Addr) (y:ByteArray) (W:World) (r:Bool) (hcell:W.cell? ⟨b,o,none⟩=some (Value.slice a n cap)) (HC:Aside (Calls Tryz.prog 49 #[.slice a n cap,.string y] W fun e w'=>e=.returned (.bool r)/\w' = W)):Calls Tryz.prog 140 #[.string y,.pointer (some ⟨b,o,none⟩)] W fun e w'=>e=.returned (.bool r)/\∃ q,w' = W.drewN q:=by
 go_enter Tryz.func140,Tryz.ntmps140
 go_wp2_with (go_at_call 49;refine HC.out.mono ?_;rintro e w' ⟨rfl,rfl⟩)
 go_ret
 exact ⟨rfl,0,rfl⟩
def c0S (k:List (List UInt8)) (F:Nat->Prop) (W:World) (lb:List Value) (h:C.RdVals F W [.p [a2N k]] lb []) (x:List UInt8):FnGives Tryz.prog 140 lb.toArray #[encStr x] (.bool (k.contains x)) W:=by
 unfold C.RdVals at h;obtain ⟨v,vs,f1,f2,rfl,hf,h1,h2⟩:=h;unfold C.RdVals at h2;obtain ⟨rfl,rfl⟩:=h2;unfold C.Rd at h1;obtain ⟨rfl,b,o,vs,rfl,hFb,hca,hv⟩:=h1;unfold C.RdVals at hv;obtain ⟨v,vs',f3,f4,rfl,hf2,hv1,hv2⟩:=hv;unfold C.RdVals at hv2;obtain ⟨rfl,rfl⟩:=hv2;unfold C.Rd at hv1;obtain ⟨a,cap,rfl,hl1,hl2,hl3,hl4⟩:=hv1;simp only [W4] at hl4;have hcell:=hca 0 (by simp);simp only [List.getElem_cons_zero,q4G] at hcell;have hcon:Calls Tryz.prog 49 #[.slice a (k.map w6).length cap,encStr x] W fun e w'=>e=.returned (.bool (k.contains x))/\w' = W:=by
  rcases hl4.2 with h0|⟨b2,o2,vs2,rfl,hF2,hca2,hrr⟩
  ·have hk:k=[]:=by simpa using h0
   subst hk;exact Any.slices_Contains_string_empty Tryz.l110 a cap ⟨x.toArray⟩ W
  ·obtain ⟨rfl,_,hok⟩:=a3s hrr;have:=Any.slices_Contains_string Tryz.l110 b2 o2 k.length cap (k.map fun s=>(⟨s.toArray⟩:ByteArray)) ⟨x.toArray⟩ W (by simp) (by rw [q1W] at hl1;simp only [maxLen] at hl2;omega) (fun j hj=>by
    have hj':j < k.length:=by simpa using hj
    have:=hca2 j (by simpa using hj');rw [this];simp [encStr,V9,hj'])
   rw [q0V (by simp),b8m] at this;rw [q1W];exact this
 show Calls Tryz.prog 140 #[encStr x,.pointer (some ⟨b,o,none⟩)] W _;exact c3k b o _ cap a _ W _ hcell hcon
def b4P (l:List (List UInt8)) (k:List (List UInt8)):spZ 138 [(false,[.sl true [.s []] (l.map w6)]),(false,[.f 140 [.p [.sl false [.s []] (k.map w6)]]])] [] (.one (false,[.sl true [.s []] ((l.filter fun v=>!k.contains v).map w6)])):=by
 refine c2Y Tryz.delStr (by kernel_rfl) (fun w=>Tryz.zeroValue9 w) (enters_of Tryz.func140 (by kernel_rfl) rfl) (fun v=>k.contains v) (c0S k) ?_ l;intro F w lb fp h;unfold C.RdVals at h;obtain ⟨v,vs,f1,f2,rfl,hf,h1,h2⟩:=h;unfold C.RdVals at h2;obtain ⟨rfl,rfl⟩:=h2;unfold C.Rd at h1;rw [hf,h1.1];rfl
noncomputable def a6C:CT:=j6 (fun (x:(List (List UInt8))×(List (List UInt8)))=>b4P x.1 x.2)
@[go_sem] def c3G:=fun l k=>nm' (fQ' a6C rfl (l,k))
def b1t (r:c6):spZ 67 [(true,[.i .i64 r.Kind,.s r.Head.Name,m0 r.Head.Args,a0W r.Body])] [] (.one (false,[a8m (b0l r)])):=by
 refine sy' Tryz.func67 (q' 1 [ao (.box 4 (.t 0)),ao (.mov (.k (.v false [.nl [.s []]])))] (.seq (q' 4 [ae 4 1,ac 69 [4],ao (.not (.t 5))] (.cond (.t 6) (q' 2 [ao (.mov (.k (.v false [.nl [.s []]])))] .ret) .skip)) (q' 7 [ae 4 1,ac 137 [7],ax (w' 3 [.sl [.s []]]),aS 1 3 8] (q' 9 [ae 4 1,ac 139 [9],ao (.mf 140 [.t 3]),ac 138 [10,11],aV 2] .ret)))) [.t 2] [(69,[],a2F),(137,[],a9N),(139,[],a7Z),(138,[0],a6C)] ?_;intro hb hE;simp only [go_sem];repeat' first|apply cj'|intro hc|exact om'|fail
 all_goals (have h9:j7 r=_:=hc;rw [b0l,h9];first|rfl)
noncomputable def a4M:CT:=j6 (fun (x:c6)=>b1t x)
@[go_sem] def c1x:=fun x0 x1 x2 x3=>nm' (fQ' a4M rfl ⟨x0,⟨x1,x2⟩,x3⟩)
end Go.Aw
namespace Go.Aw
open Go.Proofs
attribute [local irreducible] aft blk lpK retK AW A0d
set_option linter.all false
set_option maxRecDepth 100000
noncomputable def a4E (r:c6):Bool:=decide ((0:Int) < (b0l r).length)
noncomputable def w5 (p:c5):Int:=bif p8 p then a3P a4E p.Rules else -2
def a8H (r:c6):spZ 66 [(true,[.i .i64 r.Kind,.s r.Head.Name,m0 r.Head.Args,a0W r.Body])] [] (.one (false,[.b (a4E r)])):=by
 refine sy' Tryz.func66 (q' 0 [ax (o' 1 (.box 4 (.t 0))),ab 2 false] (q' 3 [ae 4 1,ac 67 [3],aN,ao (.bin .gtr (.t 5) (k' 0)),aV 2] .ret)) [.t 2] [(67,[],a4M)] ?_;intro hb hE;simp only [go_sem];repeat' first|apply cj'|intro hc|exact om'|fail
 all_goals (first|rfl)
noncomputable def a3x:CT:=j6 (fun (x:c6)=>a8H x)
@[go_sem] def b9a:=fun x0 x1 x2 x3=>nm' (fQ' a3x rfl ⟨x0,⟨x1,x2⟩,x3⟩)
def b8A (l:List c6):spZ 65 [(false,[n7 l]),(false,[.f 66 []])] [] (.one (false,[.i .i64 (a3P (fun y=>a4E y) l)])):=by
 refine sy' Tryz.func65 b3G [.t 4] [(66,[],a3x)] ?_;intro hb hE;simp only [go_sem];repeat' first|apply cj'|intro hc|exact om'|fail
 refine lq' false [0,1,7] [] [] (fun i:{i:Nat // i<=l.length/\(l.take i).any (fun y=>a4E y)=false}=>[(8,slV (.i .i64 i.1))]) nl' nl' (fun i=>l.length - i.1) (⟨0,by simp⟩) ?_;intro S0 hS0 i;obtain ⟨i,hi,ha⟩:=i;simp only [go_sem,hS0];repeat' first|apply cj'|intro hc|exact om'|fail
 ·exact (a0g (p:=fun y=>a4E y) (d:=default) (by omega) ha (by simpa [-List.getD_eq_getElem?_getD] using hc)).symm
 ·exact nx0 ⟨i+1,by omega,t2 (p:=fun y=>a4E y) default (by omega) ha (by simpa [-List.getD_eq_getElem?_getD] using hc)⟩
 ·exact (y6 (by rwa [i8 (by omega)] at ha)).symm
noncomputable def a9J:CT:=j6 (fun (x:(List c6))=>b8A x)
@[go_sem] def c6T:=fun l=>nm' (fQ' a9J rfl l)
def b1s (p:c5):spZ 21 [(true,[o8 p.Decls,n7 p.Rules])] [] (.one (false,[.i .i64 (w5 p)])):=by
 refine sy' Tryz.func21 (q' 1 [ao (.box 2 (.t 0)),aK 0] (.seq (q' 3 [ae 2 1,ac 62 [3],ao (.not (.t 4))] (.cond (.t 5) (q' 2 [ao (.mov (.k (.v false [.c (.i .i64 (-2))])))] .ret) .skip)) (q' 6 [aG 1 1,ao (.call 65 [.t 7,.k (.v false [.c (.f 66 [])])]),aV 2] .ret))) [.t 2] [(62,[],a1f),(65,[],a9J)] ?_;intro hb hE;simp only [go_sem];repeat' first|apply cj'|intro hc|exact om'|fail
 all_goals (have h9:p8 p=_:=hc;rw [w5,h9];first|rfl)
noncomputable def a1e:CT:=j6 (fun (x:c5)=>b1s x)
@[go_sem] def c1w:=fun x0 x1=>nm' (fQ' a1e rfl ⟨x0,x1⟩)
def b1A (p:c5):spZ 37 [(true,[o8 p.Decls,n7 p.Rules])] [] (.one (false,[.i .i64 (w5 p)])):=by
 refine sy' Tryz.func37 (q' 1 [ao (.box 2 (.t 0)),aK 0] (.seq (q' 4 [ae 2 1,ac 59 [4],ao (.not (.t 5))] (.cond (.t 6) (q' 2 [ao (.mov (.k (.v false [.c (.i .i64 (-2))])))] .ret) .skip)) (.seq (q' 7 [aG 1 1,aN,aK 0] (.block 0 (.loop (q' 11 [ar 10 9] (.seq (.cond (.t 11) .skip (.exit 0)) (.seq (.block 1 (q' 12 [am 10,aV 3] (q' 13 [aG 1 1,am 3,aI 4,aE 4,ac 74 [17],aN,ao (.bin .gtr (.t 19) (k' 0))] (.cond (.t 20) (q' 21 [am 3,aV 2] .ret) .skip)))) (g' 22 [aA 10]))))))) (q' 2 [ao (.mov (.k (.v false [.c (.i .i64 (-1))])))] .ret)))) [.t 2] [(59,[],a2v),(74,[],a4S)] ?_;intro hb hE;simp only [go_sem];repeat' first|apply cj'|intro hc|exact om'|fail
 ·rw [w5,hc];rfl
 have hB:p8 p=true:=hc;clear hc;refine lq' false [1,9] [2] [] (fun i:{i:Nat // i<=p.Rules.length/\(p.Rules.take i).any a4E=false}=>[(10,slV (.i .i64 i.1))]) nl' nl' (fun i=>p.Rules.length - i.1) (⟨0,by simp⟩) ?_;intro S0 hS0 i;obtain ⟨i,hi,ha⟩:=i;simp only [go_sem,hS0];repeat' first|apply cj'|intro hc|exact om'|fail
 ·rw [w5,hB,W5,a0g (p:=a4E) (d:=default) (i:=i) (by omega) ha (W8 hc)]
 ·exact nx0 ⟨i+1,by omega,t2 (p:=a4E) default (by omega) ha (V1 hc)⟩
 ·rw [w5,hB,W5,y6 (by rwa [i8 (by omega)] at ha)]
noncomputable def a4R:CT:=j6 (fun (x:c5)=>b1A x)
@[go_sem] def c1H:=fun x0 x1=>nm' (fQ' a4R rfl ⟨x0,x1⟩)
set_option maxRecDepth 100000 in
def b7d (a b:ByteArray) (w:World):Calls Tryz.prog 103 #[.string a,.string b] w fun e w'=>e=.returned (.int .i64 (Lib.compareBytes a.data.toList b.data.toList))/\w' = w:=by
 go_enter Tryz.func103,Tryz.ntmps103
 go_wp2
 rw [run_callFunc_extern Tryz.func203 (by kernel_rfl) (by kernel_rfl) (by kernel_rfl) (e:=Extern.BytealgCompare.compare) (by kernel_rfl),Lib.run_compareString];simp only [Result.andThen];rw [Oper.upon_value]
 go_wp2
 go_ret
 exact ⟨rfl,rfl⟩
def a4X (a:List UInt8) (b:List UInt8):spZ 103 [(false,[.s a]),(false,[.s b])] [] (.one (false,[.i .i64 (Lib.compareBytes a b)])):=by
 unfold spZ A0d;refine ⟨by kernel_rfl, ?_⟩;intro F w vs fpa h _ _ hF;simp only [VsRd,VRd,C.RdVals,C.Rd] at h;obtain ⟨_,_,_,_,rfl,rfl,⟨_,hc,hr⟩,_,_,_,_,rfl,rfl,⟨_,hc',hr'⟩,rfl,rfl⟩:=h;simp only [V2,q0F] at hc hc';subst hc;subst hc';simp only [C.Rd] at hr hr';obtain ⟨rfl,h1,rfl⟩:=hr;obtain ⟨rfl,h2,rfl⟩:=hr';refine (b7d ⟨a.toArray⟩ ⟨b.toArray⟩ w).mono ?_;rintro e w' ⟨rfl,rfl⟩;refine ⟨F,_,[],[],rfl, ?_,rfl,⟨fun _ h=>h,fun _ h=>.inl h,hF,q0O,by simp,fun _ _ _=>rfl,V7 _,rfl,Tp.of rfl rfl,rfl⟩⟩;simp only [RRd,VRd];refine ⟨_,rfl, ?_⟩;unfold C.Rd;have hb:∀ x y:List UInt8,-1<=Lib.compareBytes x y/\Lib.compareBytes x y<=1:=by
  intro x
  induction x with
  | nil=>intro y;cases y<;>simp [Lib.compareBytes]
  | cons a x ih=>
    intro y;cases y with
    | nil=>simp [Lib.compareBytes]
    | cons b y=>
      simp only [Lib.compareBytes];repeat' split
      all_goals first|exact ih y|decide
 have:=hb a b;refine ⟨rfl, ?_,rfl⟩;rw [min_i64,max_i64];omega
noncomputable def a4L:CT:=j6 (fun (x:(List UInt8)×(List UInt8))=>a4X x.1 x.2)
@[go_sem] def b4n:=fun a b=>nm' (fQ' a4L rfl (a,b))
def cmp_lt:∀ x y:List UInt8,decide (Lib.compareBytes x y < 0)=Op.bytesLess x y:=by
 intro x
 induction x with
 | nil=>intro y;cases y<;>simp [Lib.compareBytes,Op.bytesLess]
 | cons a x ih=>
   intro y;cases y with
   | nil=>simp [Lib.compareBytes,Op.bytesLess]
   | cons b y=>
     simp only [Lib.compareBytes,Op.bytesLess];by_cases h1:a < b
     ·simp [h1]
     ·by_cases h2:b < a
      ·have:(a==b)=false:=by simp;rintro rfl;exact h1 h2
       simp [h1,h2,this]
      ·have:a=b:=by
        apply UInt8.toNat_inj.1;simp only [UInt8.lt_iff_toNat_lt] at h1 h2;omega
       simp [this,ih]
end Go.Aw
