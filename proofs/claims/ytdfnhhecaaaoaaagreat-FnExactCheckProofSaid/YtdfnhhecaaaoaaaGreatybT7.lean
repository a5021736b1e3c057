/- Bound variables. No condition. -/
import Derived.Test.YtdfnhhecaaaoaaaGreatybT3
namespace Go.Aw
open Go.Proofs
attribute [local irreducible] aft blk lpK retK AW Z9
set_option linter.all false
set_option maxRecDepth 100000
def a1i (l:d5):Bool:=l.Kind==3&&l.Op==1
inductive Bd (r:c6):List UInt8→Prop
 | base {l:d5} {t:c8}:l∈r.Body→(l.Kind==1)=true→t∈l.Atom.Args→t6 t=true→Bd r t.Var
 | leftV {l:d5}:l∈r.Body→a1i l=true→t6 l.A=true→t6 l.B=false→Bd r l.A.Var
 | leftB {l:d5}:l∈r.Body→a1i l=true→t6 l.A=true→Bd r l.B.Var→Bd r l.A.Var
 | rightV {l:d5}:l∈r.Body→a1i l=true→t6 l.B=true→t6 l.A=false→Bd r l.B.Var
 | rightB {l:d5}:l∈r.Body→a1i l=true→t6 l.B=true→Bd r l.A.Var→Bd r l.B.Var
def t5 (out:List (List UInt8)) (t:c8):Bool:=t.Var==[] || out.contains t.Var
def t9 (out:List (List UInt8)) (l:d5):Prop:=a1i l=true→(t5 out l.A || t5 out l.B)=true→∀ x∈j3 [l.A,l.B],x∈out
def a1E (r:c6) (out:List (List UInt8)):Prop:=∀ l∈r.Body,(l.Kind==1)=true→∀ x∈j3 l.Atom.Args,x∈out
theorem u9 {l:List c8} {x:List UInt8}:x∈j3 l↔∃ t∈l,t6 t=true∧t.Var=x:=by
 simp only [j3,List.mem_map,List.mem_filter,and_assoc]
theorem Bd.mem {r:c6} {out:List (List UInt8)} (hb:a1E r out) (hc:∀ l∈r.Body,t9 out l) {v:List UInt8} (h:Bd r v):v∈out:=by
 induction h with
 | base hl hk ht hv=>exact hb _ hl hk _ (u9.2 ⟨_,ht,hv,rfl⟩)
 | leftV hl he hv hn=>
   refine hc _ hl he ?_ _ (u9.2 ⟨_,by simp,hv,rfl⟩)
   simp only [t6,Bool.not_eq_false'] at hn
   simp [t5,hn]
 | leftB hl he hv _ ih=>
   refine hc _ hl he ?_ _ (u9.2 ⟨_,by simp,hv,rfl⟩)
   simp [t5,ih]
 | rightV hl he hv hn=>
   refine hc _ hl he ?_ _ (u9.2 ⟨_,List.mem_cons_of_mem _ (List.mem_singleton.2 rfl),hv,rfl⟩)
   simp only [t6,Bool.not_eq_false'] at hn
   simp [t5,hn]
 | rightB hl he hv _ ih=>
   refine hc _ hl he ?_ _ (u9.2 ⟨_,List.mem_cons_of_mem _ (List.mem_singleton.2 rfl),hv,rfl⟩)
   simp [t5,ih]
def a6E (r:c6):List (List UInt8):=r.Body.flatMap fun l=>j3 l.Atom.Args++j3 [l.A,l.B]
theorem Bd.all {r:c6} {v:List UInt8} (h:Bd r v):v∈a6E r:=by
 have hm:∀ {l:d5} {x:List UInt8},l∈r.Body→(x∈j3 l.Atom.Args∨x∈j3 [l.A,l.B])→x∈a6E r:=fun hl hx=>List.mem_flatMap.2 ⟨_,hl,List.mem_append.2 hx⟩
 cases h with
 | base hl hk ht hv=>exact hm hl (.inl (u9.2 ⟨_,ht,hv,rfl⟩))
 | leftV hl he hv hn=>exact hm hl (.inr (u9.2 ⟨_,by simp,hv,rfl⟩))
 | leftB hl he hv hn=>exact hm hl (.inr (u9.2 ⟨_,by simp,hv,rfl⟩))
 | rightV hl he hv hn=>exact hm hl (.inr (u9.2 ⟨_,List.mem_cons_of_mem _ (List.mem_singleton.2 rfl),hv,rfl⟩))
 | rightB hl he hv hn=>exact hm hl (.inr (u9.2 ⟨_,List.mem_cons_of_mem _ (List.mem_singleton.2 rfl),hv,rfl⟩))
open Classical in
noncomputable def a0x (r:c6):List (List UInt8):=(l4 sLt [] (a6E r)).filter fun v=>decide (Bd r v)
theorem b6J (r:c6):SS sLt (a0x r):=SS.filter (SS.puts l6 SS.nil) _
open Classical in
theorem a3x {r:c6} {v:List UInt8}:v∈a0x r↔Bd r v:=by
 rw [a0x,List.mem_filter,t7,decide_eq_true_eq]
 exact ⟨fun h=>h.2,fun h=>⟨.inr h.all,h⟩⟩
theorem c1A {r:c6} {out:List (List UInt8)} (hs:SS sLt out) (hB:∀ v∈out,Bd r v) (hb:a1E r out) (hc:∀ l∈r.Body,t9 out l):out=a0x r:=
 SS.uniq l6 hs (b6J r) fun x=>⟨fun h=>a3x.2 (hB x h),fun h=>(a3x.1 h).mem hb hc⟩
theorem c1z {r:c6} {out:List (List UInt8)} (hB:∀ v∈out,Bd r v) (hb:a1E r out) (hc:∀ l∈r.Body,t9 out l):Lib.compact (a8v sLt out)=a0x r:=
 a7Q l6 (b6J r) fun x=>⟨fun h=>(a3x.1 h).mem hb hc,fun h=>a3x.2 (hB x h)⟩
theorem c7S {α:Type} [DecidableEq α] {lt:α→α→Bool} {l:List α} {s:α} (h:(a0r lt l s).length=l.length):s∈l:=by
 unfold a0r at h
 split at h
 ·assumption
 ·have e:=congrArg List.length (List.takeWhile_append_dropWhile (p:=fun x=>!lt s x) (l:=l))
  simp only [List.length_append,List.length_cons] at e h
  omega
theorem c7R {α:Type} [DecidableEq α] (lt:α→α→Bool) (l:List α) (s:α):l.length≤(a0r lt l s).length:=by
 unfold a0r
 split
 ·omega
 ·have e:=congrArg List.length (List.takeWhile_append_dropWhile (p:=fun x=>!lt s x) (l:=l))
  simp only [List.length_append,List.length_cons] at e ⊢
  omega
theorem c3P {α:Type} [DecidableEq α] (lt:α→α→Bool):∀ (r l:List α),l.length≤(l4 lt l r).length:=by
 intro r
 induction r with
 | nil=>intro l;exact Nat.le_refl _
 | cons a r ih=>
   intro l
   have:=ih (a0r lt l a)
   have:=c7R lt l a
   simp only [l4,List.foldl_cons] at *
   omega
theorem c5K {α:Type} [DecidableEq α] {lt:α→α→Bool}:∀ {r l:List α},(l4 lt l r).length=l.length→l4 lt l r=l∧∀ x∈r,x∈l:=by
 intro r
 induction r with
 | nil=>intro l _;exact ⟨rfl,by simp⟩
 | cons a r ih=>
   intro l h
   have h1:=c3P lt r (a0r lt l a)
   have h2:=c7R lt l a
   simp only [l4,List.foldl_cons] at h h1
   have ha:a∈l:=c7S (lt:=lt) (by omega)
   have e:a0r lt l a=l:=by rw [a0r,if_pos ha]
   rw [e] at h
   have h3:=ih (l:=l) h
   simp only [l4,List.foldl_cons,e]
   refine ⟨h3.1,fun x hx=>?_⟩
   rcases List.mem_cons.1 hx with rfl | hx
   ·exact ha
   ·exact h3.2 x hx
theorem a7k {r:c6} (h:i9 r=true):(a6E r).length≤64:=by
 have h8:r.Body.length≤8:=by
  simp only [i9,Bool.and_eq_true,decide_eq_true_eq] at h;omega
 have ha:∀ l∈r.Body,(j3 l.Atom.Args++j3 [l.A,l.B]).length≤8:=by
  intro l hl
  simp only [i9,Bool.and_eq_true,List.all_eq_true] at h
  have hb:=h.2 l hl
  have h1:=a0R l.Atom.Args
  have h2:=a0R [l.A,l.B]
  have h6:l.Atom.Args.length≤6:=by
   rw [a1b] at hb
   cases hk:(l.Kind==3)<;>rw [hk] at hb<;>simp only [cond_true,cond_false,Bool.and_eq_true,decide_eq_true_eq,beq_iff_eq,a1D] at hb<;>omega
  simp only [List.length_append,List.length_cons,List.length_nil] at *
  omega
 unfold a6E
 revert ha h8
 generalize r.Body=b
 intro h8 ha
 have:∀ b:List d5,(∀ l∈b,(j3 l.Atom.Args++j3 [l.A,l.B]).length≤8)→(b.flatMap fun l=>j3 l.Atom.Args++j3 [l.A,l.B]).length≤8 * b.length:=by
  intro b
  induction b with
  | nil=>intro _;simp
  | cons x b ih=>
    intro hb
    have h1:=hb x (by simp)
    have h2:=ih fun l hl=>hb l (by simp [hl])
    simp only [List.flatMap_cons,List.length_append,List.length_cons] at *
    omega
 have:=this b ha
 omega
theorem b1J (l:List (List UInt8)) (s:List UInt8) (hpre:l.length < 1099511627776):Z9 Tryz.prog 379 [(false,[.sl true [.s []] (l.map j8)]),(false,[.s s])] [] (.one (false,[.sl true [.s []] ((a0r sLt l s).map j8)])):=by
 refine sx' false false none Tryz.func379 a4h [.t 4] [] ?_
 intro hb hE
 simp only [go_sem];(repeat' first | apply CJ.mk | intro hc);all_goals try exact om'
 refine lk' false [(false,5,0,100010)] [0,1,10,11] [] [1] (fun i:{i:Nat // i≤l.length∧¬ s∈l.take i}=>[(5,.v false [.ow 100010]),(6,slV (.b ((l.take i.1).any (sLt s)))),(12,slV (.i .i64 i.1))]) nl' (fun i=>[(100010,[.s []],(a1r sLt s (l.take i.1)).map j8)]) (fun i=>l.length - i.1) (⟨0,by simp⟩) ?_
 intro S0 hS0 i
 obtain ⟨i,hi,hm⟩:=i
 simp only [go_sem,hS0];(repeat' first | apply CJ.mk | intro hc);all_goals try exact om'
 all_goals have hl:=c3H sLt s (l.take i)
 all_goals rw [List.length_take] at hl
 ·have hm2:s∈l:=by
   rw [beq_iff_eq] at hc
   have:=i6 (l:=l) [] (i:=i) (by omega)
   rw [← hc,this];exact List.getElem_mem _
  rw [a0r,if_pos hm2]
 ·omega
 ·omega
 ·have hx:=i5 (l:=l) [] (i:=i) (by omega)
  have hn:¬ s∈l.take (i+1):=by rw [hx];simp only [List.mem_append,List.mem_singleton];rintro (h | h);exact hm h;subst h;simp at *
  have h1:(l.take (i+1)).any (sLt s)=true:=by rw [hx,List.any_append,hc.1,List.any_cons,show sLt s (l.getD i [])=true from hc.2];rfl
  have h2:a1r sLt s (l.take (i+1))=a1r sLt s (l.take i)++[s]++[l.getD i []]:=by rw [hx,c3G hc.1 hc.2]
  (refine lpK_n2 (⟨i+1,by omega,hn⟩) _ (by simp only [go_sem];try rfl) ?_;simp only [go_sem,hS0];first | done | ((repeat' apply And.intro)<;>try exact on'))
  all_goals first | rw [h1] | rw [h2]
 ·omega
 ·have hx:=i5 (l:=l) [] (i:=i) (by omega)
  have hn:¬ s∈l.take (i+1):=by rw [hx];simp only [List.mem_append,List.mem_singleton];rintro (h | h);exact hm h;subst h;simp at *
  have h3:(l.take (i+1)).any (sLt s)=(l.take i).any (sLt s)∧a1r sLt s (l.take (i+1))=a1r sLt s (l.take i)++[l.getD i []]:=by
   rw [hx]
   cases h:(l.take i).any (sLt s) with
   | true=>exact ⟨by rw [List.any_append,h];rfl,b9M h⟩
   | false=>
     rw [h] at hc
     have hc2:sLt s (l.getD i [])=false:=hc
     exact ⟨by rw [List.any_append,h,List.any_cons,hc2];rfl,c7G h hc2⟩
  (refine lpK_n2 (⟨i+1,by omega,hn⟩) _ (by simp only [go_sem];try rfl) ?_;simp only [go_sem,hS0];first | done | ((repeat' apply And.intro)<;>try exact on'))
  all_goals first | rw [h3.1] | rw [h3.2]
 ·omega
 ·rw [f9 (by omega)] at hc hm ⊢
  rw [b9O hm hc]
 ·rw [f9 (by omega)] at hc hm ⊢
  rw [b9N hm hc]
noncomputable def a3U:CT:=l5 (fun (x:(List (List UInt8))×(List UInt8)) h=>b1J x.1 x.2 h)
@[go_sem] def c1U:=fun l s=>nm' (fP' a3U rfl (l,s))
theorem a8h (a:List (List UInt8)) (l:List c8) (hpre:a.length+l.length < 1099511627776):Z9 Tryz.prog 307 [(false,[.sl true [.s []] (a.map j8)]),(false,[.sl false [.s [],.i .i64 0,.s []] (l.map c8.cells)])] [] (.one (false,[.sl true [.s []] ((l4 sLt a (j3 l)).map j8)])):=by
 refine sx' false false none Tryz.func307 a2F [.t 4] [(379,[0],a3U)] ?_
 intro hb hE
 simp only [go_sem];(repeat' first | apply CJ.mk | intro hc);all_goals try exact om'
 refine lk' false [(false,0,0,100000)] [7,8] [] [] (fun i:{i:Nat // i≤l.length}=>[(0,.v false [.ow 100000]),(9,slV (.i .i64 i.1))]) nl' (fun i=>[(100000,[.s []],(l4 sLt a (j3 (l.take i.1))).map j8)]) (fun i=>l.length - i.1) (⟨0,by simp⟩) ?_
 intro S0 hS0 i
 obtain ⟨i,hi⟩:=i
 simp only [go_sem,hS0];(repeat' first | apply CJ.mk | intro hc);all_goals try exact om'
 all_goals have hl:=a0R (l.take i)
 all_goals have hl2:=a0I sLt (j3 (l.take i)) a
 all_goals rw [List.length_take] at hl
 ·omega
 ·(refine lpK_n2 (⟨i+1,by omega⟩) _ (by simp only [go_sem];try rfl) ?_;simp only [go_sem,hS0];first | done | ((repeat' apply And.intro)<;>try exact on'))
  all_goals rw [show j3 (l.take (i+1))=j3 (l.take i)++[(l.getD i default).Var] by rw [j3,j3,a6J (p:=t6) c8.Var default (by omega) (by rw [t6,hc];rfl)],b7d]
 ·(refine lpK_n2 (⟨i+1,by omega⟩) _ (by simp only [go_sem];try rfl) ?_;simp only [go_sem,hS0];first | done | ((repeat' apply And.intro)<;>try exact on'))
  all_goals rw [show j3 (l.take (i+1))=j3 (l.take i) by rw [j3,j3,b3s (p:=t6) c8.Var default (by omega) (by rw [t6,hc];rfl)]]
 ·rw [f9 (by omega)]
noncomputable def a0F:CT:=l5 (fun (x:(List (List UInt8))×(List c8)) h=>a8h x.1 x.2 h)
@[go_sem] def a4V:=fun a l=>nm' (fP' a0F rfl (a,l))
@[go_sem] theorem l16T_pair (a:List (List UInt8)) (v1:List UInt8) (n1:Int) (s1 v2:List UInt8) (n2:Int) (s2:List UInt8):a0F [(false,[.sl true [.s []] (a.map j8)]),(false,[.sl false [.s [],.i .i64 0,.s []] [[.s v1,.i .i64 n1,.s s1],[.s v2,.i .i64 n2,.s s2]]])]=some (a.length+2 < 1099511627776,[],.one (false,[.sl true [.s []] ((l4 sLt a (j3 [⟨v1,⟨n1,s1⟩⟩,⟨v2,⟨n2,s2⟩⟩])).map j8)])):=a4V a [⟨v1,⟨n1,s1⟩⟩,⟨v2,⟨n2,s2⟩⟩]
@[go_sem] def a9d:ACode:=q' 0 [ax (o' 3 (.box 3 (.t 1))),ab 4 false] (q' 5 [aG 0 3,ao (.bin .eql (.t 6) (.k (.v false [.c (.s [])]))),am 7,au (.mov (.t 0)) 8 false,au (.fa 0 (.t 3)) 8
 false,au (.ld false 1 (.t 10)) 8 false,au (.call 185 [.t 9,.t 11]) 8 false,ao (.pick (.t 8) (bb true) (.t 12)),aV 4] .ret)
theorem b1O (w:List (List UInt8)) (t:c8):Z9 Tryz.prog 308 [(false,[.sl false [.s []] (w.map j8)]),(true,[.s t.Var,.i .i64 t.Val.N,.s t.Val.S])] [] (.one (false,[.b (t5 w t)])):=by
 refine sx' false false none Tryz.func308 a9d [.t 4] [(185,[],a2C)] ?_
 intro hb hE
 simp only [go_sem];(repeat' first | apply CJ.mk | intro hc);all_goals try exact om'
 all_goals rfl
noncomputable def a3X:CT:=i3 (fun (x:(List (List UInt8))×c8)=>b1O x.1 x.2)
@[go_sem] def c1Y:=fun w x0 x1 x2=>nm' (fQ' a3X rfl (w,⟨x0,⟨x1,x2⟩⟩))
theorem ss_len {out l:List (List UInt8)} (hs:SS sLt out) (h:∀ v∈out,v∈l):out.length≤l.length:=by
 have e:out=(l4 sLt [] l).filter (fun v=>out.contains v):=SS.uniq l6 hs (SS.filter (SS.puts l6 SS.nil) _) fun x=>⟨fun hx=>List.mem_filter.2 ⟨t7.2 (.inr (h x hx)),by simpa using hx⟩,fun hx=>by simpa using (List.mem_filter.1 hx).2⟩
 have e1:=congrArg List.length e
 have e2:=List.length_filter_le (fun v=>out.contains v) (l4 sLt [] l)
 have e3:=a0I sLt l []
 simp only [List.length_nil] at e3
 omega
theorem c1y {r:c6} (h:i9 r=true) {out:List (List UInt8)} (hs:SS sLt out) (hB:∀ v∈out,Bd r v):out.length≤64:=
 Nat.le_trans (ss_len hs fun v hv=>(hB v hv).all) (a7k h)
theorem a3e {r:c6} (h:i9 r=true) {l:d5} (hl:l∈r.Body):l.Atom.Args.length≤6:=by
 simp only [i9,Bool.and_eq_true,List.all_eq_true] at h
 have hb:=h.2 l hl
 rw [a1b] at hb
 cases hk:(l.Kind==3)<;>rw [hk] at hb<;>simp only [cond_true,cond_false,Bool.and_eq_true,decide_eq_true_eq,beq_iff_eq,a1D] at hb<;>omega
theorem c2B {r:c6} {l:d5} (hl:l∈r.Body) (hk:(l.Kind==1)=true) {x:List UInt8} (hx:x∈j3 l.Atom.Args):Bd r x:=by
 obtain ⟨t,ht,hv,rfl⟩:=u9.1 hx
 exact Bd.base hl hk ht hv
theorem bd_step {r:c6} {l:d5} (hl:l∈r.Body) (he:a1i l=true) {out:List (List UInt8)} (hB:∀ v∈out,Bd r v) (hk:(t5 out l.A || t5 out l.B)=true) {x:List UInt8} (hx:x∈j3 [l.A,l.B]):Bd r x:=by
 obtain ⟨t,ht,hv,rfl⟩:=u9.1 hx
 have hA:t5 out l.A=true→t6 l.A=false∨Bd r l.A.Var:=by
  intro h
  simp only [t5,Bool.or_eq_true,List.contains_iff_mem] at h
  rcases h with h | h
  ·exact .inl (by simp [t6,h])
  ·exact .inr (hB _ h)
 have hBB:t5 out l.B=true→t6 l.B=false∨Bd r l.B.Var:=by
  intro h
  simp only [t5,Bool.or_eq_true,List.contains_iff_mem] at h
  rcases h with h | h
  ·exact .inl (by simp [t6,h])
  ·exact .inr (hB _ h)
 simp only [Bool.or_eq_true] at hk
 simp only [List.mem_cons,List.not_mem_nil,or_false] at ht
 rcases ht with rfl | rfl
 ·rcases hk with h | h
  ·rcases hA h with h | h
   ·rw [h] at hv;cases hv
   ·exact h
  ·rcases hBB h with h | h
   ·exact Bd.leftV hl he hv h
   ·exact Bd.leftB hl he hv h
 ·rcases hk with h | h
  ·rcases hA h with h | h
   ·exact Bd.rightV hl he hv h
   ·exact Bd.rightB hl he hv h
  ·rcases hBB h with h | h
   ·rw [h] at hv;cases hv
   ·exact h
@[go_sem] def a7b:ACode:=q' 1 [ao (.box 4 (.t 0)),ao (.mov (.k (.v false [.nl [.s []]])))] (q' 8 [ao (.bsl 1 0 [.s] []),aV 3] (.seq (q' 9 [ae 4 1,ac 85 [9],ao (.not (.t 10))] (.cond (.t
 11) (q' 12 [am 3,aV 2] .ret) .skip)) (.seq (q' 13 [aG 3 1,aN,aK 0] (.block 0 (.loop (q' 17 [ar 16 15] (.seq (.cond (.t 17) .skip (.exit 0)) (.seq (.block 1
 (q' 18 [am 16,aV 4] (q' 19 [aG 3 1,am 4,aI 10,aG 0 22,ao (.bin .eql (.t 24) (k' 1))] (.cond (.t 25) (g' 26 [am 3,aG 3 1,am 4,aI 10,aF 1,aG 1 31,ac 307
 [26,33],aV 3]) .skip)))) (g' 35 [aA 16]))))))) (.seq (q' 5 [ao (.mov (.k (.v false [.c (.i .i64 (-1))])))] (.block 2 (.loop (.seq (q' 36 [aM [5,3],aN,ar 36
 38] (.cond (.t 39) .skip (.exit 2))) (.block 3 (q' 40 [am 3,aN,aV 5] (q' 42 [aG 3 1,aN,aK 0] (.block 4 (.loop (q' 46 [ar 45 44] (.seq (.cond (.t 46) .skip
 (.exit 4)) (.seq (.block 5 (q' 47 [am 45,aV 6] (q' 48 [aG 3 1,am 6,aI 10,aE 10,ax (w' 7 [.i .i64,.s,.sl [.s [],.i .i64 0,.s []],.i .i64,.s,.i .i64,.s,
 .s,.i .i64,.s]),aS 10 7 52] (q' 53 [aG 0 7,ao (.bin .eql (.t 54) (k' 3)),am 55,au (.fa 3 (.t 7)) 56 true,au (.ld false 1 (.t 57)) 56 true,au (.bin .eql (.t
 58) (k' 1)) 56 true,ao (.pick (.t 56) (.t 59) (bb false)),am 60,au (.mov (.t 3)) 61 true,au (.fa 4 (.t 7)) 61 true,au (.ld true 3 (.t 63)) 61 true,au (.call
 308 [.t 62,.t 64]) 61 true,au (.mov (.t 65)) 61 true,au (.mov (.t 3)) 66 false,au (.fa 7 (.t 7)) 66 false,au (.ld true 3 (.t 68)) 66 false,au (.call 308 [.t
 67,.t 69]) 66 false,au (.pick (.t 66) (bb true) (.t 70)) 61 true,ao (.pick (.t 61) (.t 71) (bb false))] (.cond (.t 72) (g' 73 [am 3,af 4 7,aE 3,af 7 7,aE
 3,ao (.bsl 3 2 [.s,.i .i64,.s] [(0,.t 75),(1,.t 77)]),ac 307 [73,78],aV 3]) .skip))))) (g' 80 [aA 45]))))))))))))) (q' 81 [am 3,aV 2] .ret)))))
theorem a9B (r:c6):Z9 Tryz.prog 183 [(true,[.i .i64 r.Kind,.s r.Head.Name,.sl false [.s [],.i .i64 0,.s []] (r.Head.Args.map c8.cells),.sl false [.i .i64 0,.s [],.sl false [.s [],.i .i64 0,.s []] [],.i .i64 0,.s [],.i .i64 0,.s [],.s [],.i .i64 0,.s []] (r.Body.map (d5.cells false false))])] [] (.one (false,[.sl false [.s []] ((bif i9 r then a0x r else []).map j8)])):=by
 refine sx' false true none Tryz.func183 a7b [.t 2] [(85,[],z9),(307,[0],a0F),(308,[],a3X)] ?_
 intro hb hE
 simp only [go_sem];(repeat' first | apply CJ.mk | intro hc);all_goals try exact om'
 ·rw [hc];rfl
 have hR:i9 r=true:=hc
 have hb8:r.Body.length≤8:=by
  simp only [i9,Bool.and_eq_true,decide_eq_true_eq] at hR;omega
 rw [hR]
 clear hc
 refine lk' false [(false,3,0,100006)] [1,15] [2] [] (fun i:{p:Nat×List (List UInt8) // p.1≤r.Body.length∧SS sLt p.2∧(∀ v∈p.2,Bd r v)∧∀ l∈r.Body.take p.1,(l.Kind==1)=true→∀ x∈j3 l.Atom.Args,x∈p.2}=>[(3,.v false [.ow 100006]),(16,slV (.i .i64 i.1.1))]) nl' (fun i=>[(100006,[.s []],i.1.2.map j8)]) (fun i=>r.Body.length - i.1.1) (⟨(0,[]),by simp,SS.nil,by simp,by simp⟩) ?_
 intro S0 hS0 i
 obtain ⟨⟨i,o⟩,hi,hs,hB,hI⟩:=i
 simp only at hi hs hB hI
 have hlen:=c1y hR hs hB
 simp only [go_sem,hS0];(repeat' first | apply CJ.mk | intro hc);all_goals try exact om'
 ·have:=a3e hR (l:=r.Body.getD i default) (by rw [i6 default (by omega)];exact List.getElem_mem _);omega
 ·have hm:r.Body.getD i default∈r.Body:=by rw [i6 default (by omega)];exact List.getElem_mem _
  have h2:∀ v∈l4 sLt o (j3 (r.Body.getD i default).Atom.Args),Bd r v:=fun v hv=>(t7.1 hv).elim (hB v) (c2B hm hc)
  have h3:∀ l∈r.Body.take (i+1),(l.Kind==1)=true→∀ x∈j3 l.Atom.Args,x∈l4 sLt o (j3 (r.Body.getD i default).Atom.Args):=by
   intro l hl hk x hx
   rw [i5 default (by omega),List.mem_append,List.mem_singleton] at hl
   rcases hl with hl | rfl
   ·exact t7.2 (.inl (hI l hl hk x hx))
   ·exact t7.2 (.inr hx)
  exact nk0 ⟨(i+1,l4 sLt o (j3 (r.Body.getD i default).Atom.Args)),by simp only;omega,SS.puts l6 hs,h2,h3⟩
 ·have h3:∀ l∈r.Body.take (i+1),(l.Kind==1)=true→∀ x∈j3 l.Atom.Args,x∈o:=by
   intro l hl hk x hx
   rw [i5 default (by omega),List.mem_append,List.mem_singleton] at hl
   rcases hl with hl | rfl
   ·exact hI l hl hk x hx
   ·rw [hc] at hk;cases hk
  exact nk0 ⟨(i+1,o),by simp only;omega,hs,hB,h3⟩
 rw [f9 (by omega)] at hI
 clear hc hi
 refine lk' false [(false,3,0,100006)] [1] [2] [] (fun i:{p:Int×List (List UInt8) // -1≤p.1∧p.1≤p.2.length∧SS sLt p.2∧(∀ v∈p.2,Bd r v)∧a1E r p.2∧(p.1=p.2.length→∀ l∈r.Body,t9 p.2 l)}=>[(3,.v false [.ow 100006]),(5,slV (.i .i64 i.1.1))]) nl' (fun i=>[(100006,[.s []],i.1.2.map j8)]) (fun i=>(64 - i.1.1).toNat) (⟨(-1,o),by simp,by simp only;omega,hs,hB,hI,by intro h;simp only at h;omega⟩) ?_
 intro S1 hS1 i
 obtain ⟨⟨n,o1⟩,hn0,hn,hs1,hB1,hI1,hC1⟩:=i
 simp only at hn0 hn hs1 hB1 hI1 hC1
 have hlen1:=c1y hR hs1 hB1
 simp only [go_sem,hS0,hS1];(repeat' first | apply CJ.mk | intro hc);all_goals try exact om'
 ·skip
  refine lk' false [(false,3,0,100006)] [1,5,44] [2] [] (fun i:{p:Nat×List (List UInt8) // p.1≤r.Body.length∧SS sLt p.2∧(∀ v∈p.2,Bd r v)∧a1E r p.2∧o1.length≤p.2.length∧(p.2.length=o1.length→∀ l∈r.Body.take p.1,t9 p.2 l)}=>[(3,.v false [.ow 100006]),(45,slV (.i .i64 i.1.1))]) nl' (fun i=>[(100006,[.s []],i.1.2.map j8)]) (fun i=>r.Body.length - i.1.1) (⟨(0,o1),by simp,hs1,hB1,hI1,by simp,by simp⟩) ?_
  intro S2 hS2 i
  obtain ⟨⟨i,o2⟩,hi,hs2,hB2,hI2,hge,hC2⟩:=i
  simp only at hi hs2 hB2 hI2 hge hC2
  have hlen2:=c1y hR hs2 hB2
  simp only [go_sem,hS0,hS1,hS2];(repeat' first | apply CJ.mk | intro hc);all_goals try exact om'
  ·have hm:r.Body.getD i default∈r.Body:=by rw [i6 default (by omega)];exact List.getElem_mem _
   have he:a1i (r.Body.getD i default)=true:=by rw [a1i,hc.1.1,hc.1.2];rfl
   have hk:(t5 o2 (r.Body.getD i default).A || t5 o2 (r.Body.getD i default).B)=true:=by rw [Bool.or_eq_true];exact hc.2
   have hg:=c3P sLt (j3 [(r.Body.getD i default).A,(r.Body.getD i default).B]) o2
   have h2:∀ v∈l4 sLt o2 (j3 [(r.Body.getD i default).A,(r.Body.getD i default).B]),Bd r v:=fun v hv=>(t7.1 hv).elim (hB2 v) (bd_step hm he hB2 hk)
   have h3:a1E r (l4 sLt o2 (j3 [(r.Body.getD i default).A,(r.Body.getD i default).B])):=fun l hl hk x hx=>t7.2 (.inl (hI2 l hl hk x hx))
   have h4:(l4 sLt o2 (j3 [(r.Body.getD i default).A,(r.Body.getD i default).B])).length=o1.length→∀ l∈r.Body.take (i+1),t9 (l4 sLt o2 (j3 [(r.Body.getD i default).A,(r.Body.getD i default).B])) l:=by
    intro hq l hl
    have hs3:=c5K (lt:=sLt) (r:=j3 [(r.Body.getD i default).A,(r.Body.getD i default).B]) (l:=o2) (by omega)
    rw [hs3.1]
    rw [i5 default (by omega),List.mem_append,List.mem_singleton] at hl
    rcases hl with hl | rfl
    ·exact hC2 (by omega) l hl
    ·exact fun _ _=>hs3.2
   (refine lpK_n2 (⟨(i+1,l4 sLt o2 (j3 [(r.Body.getD i default).A,(r.Body.getD i default).B])),by simp only;omega,SS.puts l6 hs2,h2,h3,by simp only;omega,h4⟩) _ (by simp only [go_sem,hS0,hS1];try rfl) ?_;simp only [go_sem,hS0,hS1,hS2];first | done | ((repeat' apply And.intro)<;>try exact on'))
  ·have h4:o2.length=o1.length→∀ l∈r.Body.take (i+1),t9 o2 l:=by
    intro hq l hl
    rw [i5 default (by omega),List.mem_append,List.mem_singleton] at hl
    rcases hl with hl | rfl
    ·exact hC2 hq l hl
    ·intro h5 h6
     rw [a1i] at h5
     rw [h5,h6] at hc
     cases hc
   (refine lpK_n2 (⟨(i+1,o2),by simp only;omega,hs2,hB2,hI2,hge,h4⟩) _ (by simp only [go_sem,hS0,hS1];try rfl) ?_;simp only [go_sem,hS0,hS1,hS2];first | done | ((repeat' apply And.intro)<;>try exact on'))
  ·have h4:(o1.length:Int)=o2.length→∀ l∈r.Body,t9 o2 l:=by
    intro hq l hl
    rw [f9 (by omega)] at hC2
    exact hC2 (by omega) l hl
   (refine lpK_n2 (⟨((o1.length:Int),o2),by simp only;omega,by simp only;omega,hs2,hB2,hI2,h4⟩) _ (by simp only [go_sem,hS0,hS1];try rfl) ?_;simp only [go_sem,hS0,hS1,hS2];first | done | ((repeat' apply And.intro)<;>try exact on'))
 ·rw [c1A hs1 hB1 hI1 (hC1 (by omega))]<;>rfl
noncomputable def a2R:CT:=i3 (fun (x:c6)=>a9B x)
@[go_sem] def c0J:=fun x0 x1 x2 x3=>nm' (fQ' a2R rfl ⟨x0,⟨x1,x2⟩,x3⟩)
def miss (r:c6) (out:List (List UInt8)):Nat:=((a6E r).filter fun v=>!out.contains v).length
theorem miss_le (r:c6) (out:List (List UInt8)):miss r out≤(a6E r).length:=List.length_filter_le _ _
theorem a9o {α:Type} {p q:α→Bool}:∀ {l:List α},(∀ x,q x=true→p x=true)→(∃ x∈l,p x=true∧q x=false)→(l.filter q).length < (l.filter p).length
 | [],_,h=>by obtain ⟨x,hx,_⟩:=h;simp at hx
 | a::l,hpq,h=>by
   have hle:(l.filter q).length≤(l.filter p).length:=by
    clear h
    induction l with
    | nil=>simp
    | cons b l ih=>
      have:=hpq b
      cases hq:q b<;>cases hp:p b<;>simp_all<;>omega
   obtain ⟨x,hx,h1,h2⟩:=h
   rcases List.mem_cons.1 hx with rfl | hx
   ·simp only [List.filter_cons,h1,h2,if_true,Bool.false_eq_true,if_false,List.length_cons];omega
   ·have ih:=a9o (l:=l) hpq ⟨x,hx,h1,h2⟩
    have:=hpq a
    cases hq:q a<;>cases hp:p a<;>simp_all<;>omega
theorem miss_lt {r:c6} {out:List (List UInt8)} {v:List UInt8} (hv:v∈a6E r) (hn:out.contains v=false):miss r (out++[v]) < miss r out:=by
 refine a9o (fun x hx=>?_) ⟨v,hv,by rw [hn];rfl,by simp⟩
 simp only [Bool.not_eq_true',List.contains_eq_mem,List.mem_append,decide_eq_false_iff_not,not_or] at hx ⊢
 exact hx.1
theorem b7n (l:List c8):(a3Z l).length≤l.length:=by
 have h1:=a0I sLt (j3 l) []
 have h2:=a0R l
 simp only [List.length_nil] at h1
 unfold a3Z
 omega
theorem b7b {l:List c8} {x:List UInt8}:x∈a3Z l↔x∈j3 l:=by
 rw [a3Z,t7];simp
theorem c5s {o:List (List UInt8)} {l:d5} (h0:t5 o l.B=true→t6 l.A=true→l.A.Var∈o) (h1:t5 o l.A=true→t6 l.B=true→l.B.Var∈o):t9 o l:=by
 intro _ hk x hx
 obtain ⟨t,ht,hv,rfl⟩:=u9.1 hx
 have hs:∀ t:c8,t6 t=true→t5 o t=true→t.Var∈o:=by
  intro t hv h
  simp only [t5,Bool.or_eq_true,List.contains_iff_mem] at h
  rcases h with h | h
  ·simp [t6,h] at hv
  ·exact h
 simp only [List.mem_cons,List.not_mem_nil,or_false] at ht
 rw [Bool.or_eq_true] at hk
 rcases ht with rfl | rfl
 ·rcases hk with h | h
  ·exact hs _ hv h
  ·exact h0 h hv
 ·rcases hk with h | h
  ·exact h1 h hv
  ·exact hs _ hv h
theorem b9a {r:c6} (hV:(a6E r).length≤64) {o1 o3:List (List UInt8)} {g3:Bool} {v:List UInt8} (hl:o3.length+miss r o3≤112) (hB:∀ v∈o3,Bd r v) (hI:a1E r o3) (hC:g3=false→o3=o1) (hM:g3=true→miss r o3 < miss r o1) (hv:Bd r v) (hn:o3.contains v=false):(o3++[v]).length+miss r (o3++[v])≤112∧(∀ x∈o3++[v],Bd r x)∧a1E r (o3++[v])∧miss r (o3++[v]) < miss r o1:=by
 have h1:=miss_lt hv.all hn
 refine ⟨by simp only [List.length_append,List.length_cons,List.length_nil];omega,fun x hx=>?_,fun l hl hk x hx=>List.mem_append.2 (.inl (hI l hl hk x hx)), ?_⟩
 ·rcases List.mem_append.1 hx with h | h
  ·exact hB x h
  ·rw [List.mem_singleton.1 h];exact hv
 ·cases g3 with
  | false=>rw [hC rfl] at h1 ⊢;exact h1
  | true=>have:=hM rfl;omega
@[go_sem] def b5d:ACode:=q' 1 [ao (.box 4 (.t 0)),ao (.mov (.k (.v false [.nl [.s []]])))] (q' 12 [ao (.bsl 1 0 [.s] []),aV 3] (.seq (q' 13 [aG 3 1,aN,aK 0] (.block 0 (.loop (q' 17 [ar
 16 15] (.seq (.cond (.t 17) .skip (.exit 0)) (.seq (.block 1 (q' 18 [ai 10 14 16,aE 10,ax (w' 5 [.i .i64,.s,.sl [.s [],.i .i64 0,.s []],.i .i64,.s,.i
 .i64,.s,.s,.i .i64,.s]),aS 10 5 19] (q' 20 [aG 0 5,ao (.bin .eql (.t 21) (k' 1))] (.cond (.t 22) (g' 23 [am 3,af 1 5,aG 1 24,ac 268 [26],ao (.app 1 16
 [.s] (.t 23) (.t 27)),aV 3]) .skip)))) (g' 29 [aA 16]))))))) (.seq (q' 0 [ab 6 true] (.block 2 (.loop (.seq (q' 30 [am 6] (.cond (.t 30) .skip (.exit 2)))
 (.block 3 (q' 0 [ab 6 false] (q' 31 [aG 3 1,aN,aK 0] (.block 4 (.loop (q' 35 [ar 34 33] (.seq (.cond (.t 35) .skip (.exit 4)) (.seq (.block 5 (q' 36 [ai 10 32
 34,aE 10,ax (w' 8 [.i .i64,.s,.sl [.s [],.i .i64 0,.s []],.i .i64,.s,.i .i64,.s,.s,.i .i64,.s]),aS 10 8 37] (.seq (q' 38 [aG 0 8,ao (.bin .neq (.t
 39) (k' 3)),am 40,au (.fa 3 (.t 8)) 41 false,au (.ld false 1 (.t 42)) 41 false,au (.bin .neq (.t 43) (k' 1)) 41 false,ao (.pick (.t 41) (bb true) (.t 44))]
 (.cond (.t 45) (.exit 5) .skip)) (q' 46 [af 4 8,aE 3,af 7 8,aE 3,ao (.bld [.s,.i .i64,.s,.s,.i .i64,.s] [(0,3,.t 47),(3,3,.t 49)]),af 7 8,aE 3,af 4
 8,aE 3,ao (.bld [.s,.i .i64,.s,.s,.i .i64,.s] [(0,3,.t 52),(3,3,.t 54)]),ao (.bsl 6 2 [.s,.i .i64,.s,.s,.i .i64,.s] [(0,.t 50),(1,.t
 55)]),aN,aK 0] (.block 6 (.loop (q' 59 [ar 58 57] (.seq (.cond (.t 59) .skip (.exit 6)) (.seq (.block 7 (q' 60 [ai 6 56 58,aE 6,ax (w' 10 [.s,.i .i64,.s,
 .s,.i .i64,.s]),aS 6 10 61] (q' 62 [ao (.ib 2 3 (.t 10) (k' 1)),aG 0 62,ao (.bin .eql (.t 64) (.k (.v false [.c (.s [])]))),am 65,au (.mov (.t 3)) 66
 false,au (.ib 2 3 (.t 10) (k' 1)) 66 false,au (.fa 0 (.t 68)) 66 false,au (.ld false 1 (.t 69)) 66 false,au (.call 158 [.t 67,.t 70]) 66 false,ao (.pick (.t
 66) (bb true) (.t 71)),aV 11] (q' 73 [aM [11,73],au (.ib 2 3 (.t 10) (k' 0)) 74 true,au (.fa 0 (.t 75)) 74 true,au (.ld false 1 (.t 76)) 74 true,au (.bin .neq
 (.t 77) (.k (.v false [.c (.s [])]))) 74 true,ao (.pick (.t 74) (.t 78) (bb false)),am 79,au (.mov (.t 3)) 80 true,au (.ib 2 3 (.t 10) (k' 0)) 80 true,au (.fa
 0 (.t 82)) 80 true,au (.ld false 1 (.t 83)) 80 true,au (.call 158 [.t 81,.t 84]) 80 true,au (.not (.t 85)) 80 true,ao (.pick (.t 80) (.t 86) (bb false))]
 (.cond (.t 87) (q' 88 [am 3,ao (.ib 2 3 (.t 10) (k' 0)),aG 0 89,ao (.bsl 1 1 [.s] [(0,.t 91)]),ao (.app 1 16 [.s] (.t 88) (.t 92)),aV 3] (g' 0 [ab 6 true]))
 .skip))))) (g' 94 [aA 58])))))))))) (g' 95 [aA 34]))))))))))))) (q' 96 [am 3,ac 269 [96]] (q' 98 [am 3,ac 270 [98],aV 2] .ret)))))
theorem b8c (r:c6) (hpre:i9 r=true):Z9 Tryz.prog 154 [(true,[.i .i64 r.Kind,.s r.Head.Name,.sl false [.s [],.i .i64 0,.s []] (r.Head.Args.map c8.cells),.sl false [.i .i64 0,.s [],.sl false [.s [],.i .i64 0,.s []] [],.i .i64 0,.s [],.i .i64 0,.s [],.s [],.i .i64 0,.s []] (r.Body.map (d5.cells false false))])] [] (.one (false,[.sl true [.s []] ((a0x r).map j8)])):=by
 refine sx' false false none Tryz.func154 b5d [.t 2] [(268,[],a2q),(158,[],c7n),(269,[0],a9i),(270,[0],b3b)] ?_
 intro hb hE
 have hb8:r.Body.length≤8:=by
  simp only [i9,Bool.and_eq_true,decide_eq_true_eq] at hpre;omega
 have hV:=a7k hpre
 simp only [go_sem];(repeat' first | apply CJ.mk | intro hc);all_goals try exact om'
 refine lk' false [(false,3,0,100006)] [1,14,15] [2] [] (fun i:{p:Nat×List (List UInt8) // p.1≤r.Body.length∧p.2.length≤6 * p.1∧(∀ v∈p.2,Bd r v)∧∀ l∈r.Body.take p.1,(l.Kind==1)=true→∀ x∈j3 l.Atom.Args,x∈p.2}=>[(3,.v false [.ow 100006]),(16,slV (.i .i64 i.1.1))]) nl' (fun i=>[(100006,[.s []],i.1.2.map j8)]) (fun i=>r.Body.length - i.1.1) (⟨(0,[]),by simp,by simp,by simp,by simp⟩) ?_
 intro S0 hS0 i
 obtain ⟨⟨i,o⟩,hi,hlen,hB,hI⟩:=i
 simp only at hi hlen hB hI
 simp only [go_sem,hS0];(repeat' first | apply CJ.mk | intro hc);all_goals try exact om'
 ·have:=a3e hpre (l:=r.Body.getD i default) (by rw [i6 default (by omega)];exact List.getElem_mem _);omega
 ·have:=a3e hpre (l:=r.Body.getD i default) (by rw [i6 default (by omega)];exact List.getElem_mem _)
  have:=b7n (r.Body.getD i default).Atom.Args
  omega
 ·have hm:r.Body.getD i default∈r.Body:=by rw [i6 default (by omega)];exact List.getElem_mem _
  have h6:=a3e hpre hm
  have hv6:=b7n (r.Body.getD i default).Atom.Args
  have h2:∀ v∈o++a3Z (r.Body.getD i default).Atom.Args,Bd r v:=fun v hv=>(List.mem_append.1 hv).elim (hB v) fun h=>c2B hm hc (b7b.1 h)
  have h3:∀ l∈r.Body.take (i+1),(l.Kind==1)=true→∀ x∈j3 l.Atom.Args,x∈o++a3Z (r.Body.getD i default).Atom.Args:=by
   intro l hl hk x hx
   rw [i5 default (by omega),List.mem_append,List.mem_singleton] at hl
   rcases hl with hl | rfl
   ·exact List.mem_append.2 (.inl (hI l hl hk x hx))
   ·exact List.mem_append.2 (.inr (b7b.2 hx))
  (refine lpK_n2 (⟨(i+1,o++a3Z (r.Body.getD i default).Atom.Args),by simp only;omega,by simp only [List.length_append];omega,h2,h3⟩) _ (by simp only [go_sem];try rfl) ?_;simp only [go_sem,hS0];first | done | ((repeat' apply And.intro)<;>try exact on'))
  all_goals rw [List.map_append]
 ·have h3:∀ l∈r.Body.take (i+1),(l.Kind==1)=true→∀ x∈j3 l.Atom.Args,x∈o:=by
   intro l hl hk x hx
   rw [i5 default (by omega),List.mem_append,List.mem_singleton] at hl
   rcases hl with hl | rfl
   ·exact hI l hl hk x hx
   ·rw [hc] at hk;cases hk
  exact nk0 ⟨(i+1,o),by simp only;omega,by simp only;omega,hB,h3⟩
 rw [f9 (by omega)] at hI
 clear hc
 have hms:=miss_le r o
 refine lk' false [(false,3,0,100006)] [1] [2] [] (fun i:{p:Bool×List (List UInt8) // p.2.length+miss r p.2≤112∧(∀ v∈p.2,Bd r v)∧a1E r p.2∧(p.1=false→∀ l∈r.Body,t9 p.2 l)}=>[(3,.v false [.ow 100006]),(6,slV (.b i.1.1))]) nl' (fun i=>[(100006,[.s []],i.1.2.map j8)]) (fun i=>2 * miss r i.1.2+(bif i.1.1 then 1 else 0)) (⟨(true,o),by simp only;omega,hB,hI,by intro h;cases h⟩) ?_
 intro S1 hS1 i
 obtain ⟨⟨g,o1⟩,hl1,hB1,hI1,hC1⟩:=i
 simp only at hl1 hB1 hI1 hC1
 simp only [go_sem,hS0,hS1];(repeat' first | apply CJ.mk | intro hc);all_goals try exact om'
 ·skip
  refine lk' false [(false,3,0,100006)] [1,32,33] [2] [] (fun i:{p:Nat×Bool×List (List UInt8) // p.1≤r.Body.length∧p.2.2.length+miss r p.2.2≤112∧(∀ v∈p.2.2,Bd r v)∧a1E r p.2.2∧(p.2.1=false→p.2.2=o1∧∀ l∈r.Body.take p.1,t9 o1 l)∧(p.2.1=true→miss r p.2.2 < miss r o1)}=>[(3,.v false [.ow 100006]),(6,slV (.b i.1.2.1)),(34,slV (.i .i64 i.1.1))]) nl' (fun i=>[(100006,[.s []],i.1.2.2.map j8)]) (fun i=>r.Body.length - i.1.1) (⟨(0,false,o1),by simp,hl1,hB1,hI1,by simp,by intro h;cases h⟩) ?_
  intro S2 hS2 i
  obtain ⟨⟨i,g2,o2⟩,hi2,hl2,hB2,hI2,hC2,hM2⟩:=i
  simp only at hi2 hl2 hB2 hI2 hC2 hM2
  simp only [go_sem,hS0,hS1,hS2];(repeat' first | apply CJ.mk | intro hc);all_goals try exact om'
  ·have h3:g2=false→o2=o1∧∀ l∈r.Body.take (i+1),t9 o1 l:=by
    intro hg
    refine ⟨(hC2 hg).1,fun l hl=>?_⟩
    rw [i5 default (by omega),List.mem_append,List.mem_singleton] at hl
    rcases hl with hl | rfl
    ·exact (hC2 hg).2 l hl
    ·intro h5
     simp only [a1i,Bool.and_eq_true] at h5
     rcases hc with h | h
     ·simp only [bne,h5.1] at h;cases h
     ·simp only [bne,h5.2] at h;cases h
   (refine lpK_n2 (⟨(i+1,g2,o2),by simp only;omega,hl2,hB2,hI2,h3,hM2⟩) _ (by simp only [go_sem,hS0,hS1];try rfl) ?_;simp only [go_sem,hS0,hS1,hS2];first | done | ((repeat' apply And.intro)<;>try exact on'))
  ·skip
   refine lk' false [(false,3,0,100006)] [1,32,33,34,56,57] [2] [7168] (fun i:{p:Nat×Bool×List (List UInt8) // p.1≤2∧p.2.2.length+miss r p.2.2≤112∧(∀ v∈p.2.2,Bd r v)∧a1E r p.2.2∧(p.2.1=false→p.2.2=o1∧(∀ l∈r.Body.take i,t9 o1 l)∧(0 < p.1→t5 o1 (r.Body.getD i default).B=true→t6 (r.Body.getD i default).A=true→(r.Body.getD i default).A.Var∈o1)∧(1 < p.1→t5 o1 (r.Body.getD i default).A=true→t6 (r.Body.getD i default).B=true→(r.Body.getD i default).B.Var∈o1))∧(p.2.1=true→miss r p.2.2 < miss r o1)}=>[(3,.v false [.ow 100006]),(6,slV (.b i.1.2.1)),(58,slV (.i .i64 i.1.1))]) nl' (fun i=>[(100006,[.s []],i.1.2.2.map j8)]) (fun i=>2 - i.1.1) (⟨(0,g2,o2),by simp,hl2,hB2,hI2,fun hg=>⟨(hC2 hg).1,(hC2 hg).2,by simp,by simp⟩,hM2⟩) ?_
   intro S3 hS3 i
   obtain ⟨⟨k,g3,o3⟩,hk3,hl3,hB3,hI3,hC3,hM3⟩:=i
   simp only at hk3 hl3 hB3 hI3 hC3 hM3
   have hm:r.Body.getD i default∈r.Body:=by rw [i6 default (by omega)];exact List.getElem_mem _
   have he:a1i (r.Body.getD i default)=true:=by
    simp only [bne,Bool.not_eq_false'] at hc
    rw [a1i,hc.1,hc.2];rfl
   rcases (show k=0∨k=1∨k=2 by omega) with rfl | rfl | rfl
   ·simp only [go_sem,hS0,hS1,hS2,hS3];(repeat' first | apply CJ.mk | intro hc);all_goals try exact om'
    ·have hv:Bd r (r.Body.getD i default).A.Var:=by
      rcases hc.1.1 with h | h
      ·exact Bd.leftV hm he (by rw [t6,hc.1.2];rfl) (by rw [t6,h];rfl)
      ·exact Bd.leftB hm he (by rw [t6,hc.1.2];rfl) (hB3 _ (List.contains_iff_mem.1 h))
     have ha:=b9a hV hl3 hB3 hI3 (fun hg=>(hC3 hg).1) hM3 hv hc.2
     (refine lpK_n2 (⟨(1,true,o3++[(r.Body.getD i default).A.Var]),by simp,ha.1,ha.2.1,ha.2.2.1,fun h=>absurd h (by simp),fun _=>ha.2.2.2⟩) _ (by simp only [go_sem,hS0,hS1,hS2];try rfl) ?_;simp only [go_sem,hS0,hS1,hS2,hS3];first | done | ((repeat' apply And.intro)<;>try exact on'))
     all_goals rw [List.map_append];rfl
    ·have h9:g3=false→t5 o1 (r.Body.getD i default).B=true→t6 (r.Body.getD i default).A=true→(r.Body.getD i default).A.Var∈o1:=by
      intro hg h5 h6
      rw [← (hC3 hg).1] at h5 ⊢
      rw [t5] at h5
      simp only [t6] at h6
      rw [h5,h6] at hc
      simpa using hc
     (refine lpK_n2 (⟨(1,g3,o3),by simp,hl3,hB3,hI3,fun hg=>⟨(hC3 hg).1,(hC3 hg).2.1,fun _=>h9 hg,by simp⟩,hM3⟩) _ (by simp only [go_sem,hS0,hS1,hS2];try rfl) ?_;simp only [go_sem,hS0,hS1,hS2,hS3];first | done | ((repeat' apply And.intro)<;>try exact on'))
   ·simp only [go_sem,hS0,hS1,hS2,hS3];(repeat' first | apply CJ.mk | intro hc);all_goals try exact om'
    ·have hv:Bd r (r.Body.getD i default).B.Var:=by
      rcases hc.1.1 with h | h
      ·exact Bd.rightV hm he (by rw [t6,hc.1.2];rfl) (by rw [t6,h];rfl)
      ·exact Bd.rightB hm he (by rw [t6,hc.1.2];rfl) (hB3 _ (List.contains_iff_mem.1 h))
     have ha:=b9a hV hl3 hB3 hI3 (fun hg=>(hC3 hg).1) hM3 hv hc.2
     (refine lpK_n2 (⟨(2,true,o3++[(r.Body.getD i default).B.Var]),by simp,ha.1,ha.2.1,ha.2.2.1,fun h=>absurd h (by simp),fun _=>ha.2.2.2⟩) _ (by simp only [go_sem,hS0,hS1,hS2];try rfl) ?_;simp only [go_sem,hS0,hS1,hS2,hS3];first | done | ((repeat' apply And.intro)<;>try exact on'))
     all_goals rw [List.map_append];rfl
    ·have h9:g3=false→t5 o1 (r.Body.getD i default).A=true→t6 (r.Body.getD i default).B=true→(r.Body.getD i default).B.Var∈o1:=by
      intro hg h5 h6
      rw [← (hC3 hg).1] at h5 ⊢
      rw [t5] at h5
      simp only [t6] at h6
      rw [h5,h6] at hc
      simpa using hc
     (refine lpK_n2 (⟨(2,g3,o3),by simp,hl3,hB3,hI3,fun hg=>⟨(hC3 hg).1,(hC3 hg).2.1,(fun _=>(hC3 hg).2.2.1 (by simp)),fun _=>h9 hg⟩,hM3⟩) _ (by simp only [go_sem,hS0,hS1,hS2];try rfl) ?_;simp only [go_sem,hS0,hS1,hS2,hS3];first | done | ((repeat' apply And.intro)<;>try exact on'))
   ·simp only [go_sem,hS0,hS1,hS2,hS3];(repeat' first | apply CJ.mk | intro hc);all_goals try exact om'
    have h9:g3=false→o3=o1∧∀ l∈r.Body.take (i+1),t9 o1 l:=by
     intro hg
     obtain ⟨h5,h6,h7,h8⟩:=hC3 hg
     refine ⟨h5,fun l hl=>?_⟩
     rw [i5 default (by omega),List.mem_append,List.mem_singleton] at hl
     rcases hl with hl | rfl
     ·exact h6 l hl
     ·exact c5s (h7 (by simp)) (h8 (by simp))
    (refine lpK_n2 (⟨(i+1,g3,o3),by simp only;omega,hl3,hB3,hI3,h9,hM3⟩) _ (by simp only [go_sem,hS0,hS1,hS2];try rfl) ?_;simp only [go_sem,hS0,hS1,hS2,hS3];first | done | ((repeat' apply And.intro)<;>try exact on'))
  ·have h3:g2=false→∀ l∈r.Body,t9 o2 l:=by
    intro hg l hl
    have h5:=hC2 hg
    rw [f9 (by omega)] at h5
    rw [h5.1];exact h5.2 l hl
   cases g2 with
   | false=>
     have h7:=(hC2 rfl).1
     (refine lpK_n2 (⟨(false,o2),hl2,hB2,hI2,h3⟩) _ (by simp only [go_sem,hS0,hS1,hS2];try rfl) ?_;simp only [go_sem,hS0,hS1,hS2];first | done | ((repeat' apply And.intro)<;>try exact on'))
     all_goals (subst h7;rw [show g=true by assumption];simp only [cond_true];omega)
   | true=>
     have h7:=hM2 rfl
     (refine lpK_n2 (⟨(true,o2),hl2,hB2,hI2,h3⟩) _ (by simp only [go_sem,hS0,hS1,hS2];try rfl) ?_;simp only [go_sem,hS0,hS1,hS2];first | done | ((repeat' apply And.intro)<;>try exact on'))
     all_goals (rw [show g=true by assumption];simp only [cond_true];omega)
 ·rw [c1z hB1 hI1 (hC1 hc)]
noncomputable def a7y:CT:=l5 (fun (x:c6) h=>b8c x h)
@[go_sem] def c6i:=fun x0 x1 x2 x3=>nm' (fP' a7y rfl ⟨x0,⟨x1,x2⟩,x3⟩)
end Go.Aw
