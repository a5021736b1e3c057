/- What a view leans on. No condition. -/
import Derived.Test.YtdfnhhecaaaoaaaGreatybT2
import Derived.Test.YtdfnhhecaaaoaaaGreatybT7
namespace Go.Aw
open Go.Proofs
attribute [local irreducible] aft blk lpK retK AW Z9
set_option linter.all false
set_option maxRecDepth 100000
def bodyN (r:c6):List (List UInt8):=((m8 r).drop 1).map f5.Name
def c7O (p:c4) (a:List UInt8) (r:c6):Bool:=(r.Kind==1&&p9 p r.Head.Name==3)&&r.Head.Name==a
def a1v (p:c4) (a:List UInt8):List (List UInt8):=(p.Rules.filter (c7O p a)).flatMap bodyN
inductive Rch (p:c4) (a:List UInt8):List UInt8→Prop
 | one {b:List UInt8}:b∈a1v p a→Rch p a b
 | step {b c:List UInt8}:Rch p a b→c∈a1v p b→Rch p a c
def b6H (p:c4):List (List UInt8):=p.Rules.flatMap bodyN
theorem b4D {p:c4} {a b:List UInt8} (h:b∈a1v p a):b∈b6H p:=by
 obtain ⟨r,hr,hb⟩:=List.mem_flatMap.1 h
 exact List.mem_flatMap.2 ⟨r,(List.mem_filter.1 hr).1,hb⟩
theorem Rch.all {p:c4} {a b:List UInt8} (h:Rch p a b):b∈b6H p:=by
 cases h with
 | one h=>exact b4D h
 | step _ h=>exact b4D h
theorem Rch.mem {p:c4} {a:List UInt8} {l:List (List UInt8)} (h1:∀ x∈a1v p a,x∈l) (h2:∀ x∈l,∀ y∈a1v p x,y∈l) {b:List UInt8} (h:Rch p a b):b∈l:=by
 induction h with
 | one h=>exact h1 _ h
 | step _ h ih=>exact h2 _ ih _ h
open Classical in
noncomputable def reachS (p:c4) (a:List UInt8):List (List UInt8):=(l4 sLt [] (b6H p)).filter fun v=>decide (Rch p a v)
noncomputable def leans (p:c4) (a b:List UInt8):Bool:=(i4 p).1==0&&(reachS p a).contains b
def a2G (o l:List (List UInt8)):List (List UInt8):=l.foldl (fun o y=>if y∈o then o else o++[y]) o
theorem b2T:∀ (l o:List (List UInt8)),∃ s,a2G o l=o++s∧(∀ x∈s,x∈l)
 | [],o=>⟨[],by simp [a2G],by simp⟩
 | y::l,o=>by
   by_cases h:y∈o
   ·obtain ⟨s,e,hs⟩:=b2T l o
    exact ⟨s,by rw [← e];simp [a2G,h],fun x hx=>List.mem_cons_of_mem _ (hs x hx)⟩
   ·obtain ⟨s,e,hs⟩:=b2T l (o++[y])
    refine ⟨y::s, ?_, ?_⟩
    ·have:a2G o (y::l)=a2G (o++[y]) l:=by simp [a2G,h]
     rw [this,e];simp
    ·intro x hx
     rcases List.mem_cons.1 hx with rfl | hx
     ·simp
     ·exact List.mem_cons_of_mem _ (hs x hx)
theorem a2H {l o:List (List UInt8)} {x:List UInt8}:x∈a2G o l↔x∈o∨x∈l:=by
 induction l generalizing o with
 | nil=>simp [a2G]
 | cons y l ih=>
   have e:a2G o (y::l)=a2G (if y∈o then o else o++[y]) l:=rfl
   rw [e,ih]
   by_cases h:y∈o
   ·simp only [h,if_true,List.mem_cons]
    constructor
    ·rintro (h1 | h1);exact .inl h1;exact .inr (.inr h1)
    ·rintro (h1 | rfl | h1);exact .inl h1;exact .inl h;exact .inr h1
   ·rw [if_neg h,List.mem_append,List.mem_singleton,List.mem_cons,or_assoc]
theorem a6D:∀ {l o:List (List UInt8)},o.Nodup→(a2G o l).Nodup
 | [],o,h=>h
 | y::l,o,h=>by
   have e:a2G o (y::l)=a2G (if y∈o then o else o++[y]) l:=rfl
   rw [e]
   by_cases hy:y∈o
   ·rw [if_pos hy];exact a6D h
   ·rw [if_neg hy]
    refine a6D (List.nodup_append.2 ⟨h,by simp, ?_⟩)
    intro a ha b hb
    rw [List.mem_singleton] at hb
    rintro rfl
    exact hy (hb▸ha)
def univ (p:c4):Nat:=(b6H p).length
structure FInv (p:c4) (v:List UInt8) (k:Nat) (o n:List (List UInt8)):Prop where
 nd:o.Nodup
 un:∀ x∈o,x∈b6H p
 ok:∀ x∈o,Rch p v x
 nx:∀ x∈n,x=v∨x∈o
 cl:∀ x,x=v∨x∈o→x∈n∨∀ y∈a1v p x,y∈o
 ms:n=[]∨k+2 * (univ p - o.length)+n.length≤2 * univ p+1
theorem b7c {α:Type} [DecidableEq α]:∀ {l m:List α},l.Nodup→(∀ x∈l,x∈m)→l.length≤m.length
 | [],_,_,_=>Nat.zero_le _
 | x::l,m,h,hm=>by
   rw [List.nodup_cons] at h
   have h1:=b7c (l:=l) (m:=m.erase x) h.2 fun y hy=>(List.mem_erase_of_ne (fun e=>h.1 (by rw [← e];exact hy))).2 (hm y (by simp [hy]))
   have h2:=List.length_erase_of_mem (hm x (by simp))
   have h3:0 < m.length:=List.length_pos_of_mem (hm x (by simp))
   simp only [List.length_cons];omega
theorem FInv.step {p:c4} {v:List UInt8} {k:Nat} {o r:List (List UInt8)} {x:List UInt8} (h:FInv p v k o (x::r)):FInv p v (k+1) (a2G o (a1v p x)) (r++(a2G o (a1v p x)).drop o.length):=by
 obtain ⟨s,e,hs⟩:=b2T (a1v p x) o
 have hd:(a2G o (a1v p x)).drop o.length=s:=by rw [e];simp
 have hx:x=v∨Rch p v x:=(h.nx x (by simp)).imp id (h.ok x)
 have hR:∀ y∈a1v p x,Rch p v y:=fun y hy=>by
  rcases hx with rfl | hx
  ·exact .one hy
  ·exact .step hx hy
 have hun:∀ y∈a2G o (a1v p x),y∈b6H p:=fun y hy=>(a2H.1 hy).elim (h.un y) b4D
 have hnd:=a6D (l:=a1v p x) h.nd
 refine ⟨hnd,hun,fun y hy=>(a2H.1 hy).elim (h.ok y) (hR y), ?_, ?_, ?_⟩
 ·intro y hy
  rw [hd] at hy
  rcases List.mem_append.1 hy with hy | hy
  ·exact (h.nx y (by simp [hy])).imp id fun hy=>a2H.2 (.inl hy)
  ·exact .inr (a2H.2 (.inr (hs y hy)))
 ·intro y hy
  rw [hd]
  have old:y=v∨y∈o→y∈r++s∨∀ z∈a1v p y,z∈a2G o (a1v p x):=by
   intro hy
   rcases h.cl y hy with h1 | h1
   ·rcases List.mem_cons.1 h1 with rfl | h1
    ·exact .inr fun z hz=>a2H.2 (.inr hz)
    ·exact .inl (List.mem_append.2 (.inl h1))
   ·exact .inr fun z hz=>a2H.2 (.inl (h1 z hz))
  rcases hy with hy | hy
  ·exact old (.inl hy)
  ·rw [e] at hy
   rcases List.mem_append.1 hy with hy | hy
   ·exact old (.inr hy)
   ·exact .inl (List.mem_append.2 (.inr hy))
 ·right
  have h1:=b7c hnd hun
  have h2:(a2G o (a1v p x)).length=o.length+s.length:=by rw [e,List.length_append]
  have h3:=h.ms.resolve_left (by simp)
  rw [hd]
  simp only [List.length_cons,List.length_append,univ] at h1 h3 ⊢
  omega
theorem b9d {p:c4} (h:m9 p=true) {i:Nat} (hi:i < p.Rules.length):(p.Rules.getD i default).Body.length≤8:=b9L h (A3q hi)
def nextF (p:c4) (a:List UInt8) (n:Nat):List (List UInt8):=((p.Rules.take n).filter (c7O p a)).flatMap bodyN
@[go_sem] theorem nextF_zero (p:c4) (a:List UInt8):nextF p a 0=[]:=rfl
@[go_sem] theorem putsN_nil (l:List (List UInt8)):l4 sLt l []=l:=rfl
@[go_sem] theorem addL_nil (o:List (List UInt8)):a2G o []=o:=rfl
theorem a1c {p:c4} (h:((i4 p).1==0)=true):m9 p=true:=by
 cases hB:m9 p with
 | true=>rfl
 | false=>rw [a1f hB] at h;simp at h
@[go_sem] def a6u:ACode:=q' 2 [ao (.box 2 (.t 0)),ao (.box 4 (.t 1)),ao (.mov (bb false))] (q' 5 [aG 0 3,ao (.bin .eql (.t 6) (k' 1)),am 7,au (.ld true 2 (.t 2)) 8 true,au (.fa 1 (.t
 3)) 8 true,au (.fa 0 (.t 10)) 8 true,au (.ld false 1 (.t 11)) 8 true,au (.call 225 [.t 9,.t 12]) 8 true,au (.bin .eql (.t 13) (k' 3)) 8 true,ao (.pick (.t 8)
 (.t 14) (bb false)),aV 4] .ret)
theorem a7Z (p:c4) (r:c6):Z9 Tryz.prog 222 [(true,[.sl false [.i .i64 0,.s [],.i .i64 0] (p.Decls.map d7.cells),.sl false [.i .i64 0,.s [],.sl false [.s [],.i .i64 0,.s []] [],.sl false [.i .i64 0,.s [],.sl false [.s [],.i .i64 0,.s []] [],.i .i64 0,.s [],.i .i64 0,.s [],.s [],.i .i64 0,.s []] []] (p.Rules.map (c6.cells false false))]),(true,[.i .i64 r.Kind,.s r.Head.Name,.sl false [.s [],.i .i64 0,.s []] (r.Head.Args.map c8.cells),.sl false [.i .i64 0,.s [],.sl false [.s [],.i .i64 0,.s []] [],.i .i64 0,.s [],.i .i64 0,.s [],.s [],.i .i64 0,.s []] (r.Body.map (d5.cells false false))])] [] (.one (false,[.b (r.Kind==1&&p9 p r.Head.Name==3)])):=by
 refine sx' false false none Tryz.func222 a6u [.t 4] [(225,[],v6)] ?_
 intro hb hE
 simp only [go_sem];(repeat' first | apply CJ.mk | intro hc);all_goals try exact om'
 all_goals (first | rfl | (rw [hc];rfl))
noncomputable def a0z:CT:=i3 (fun (x:c4×c6)=>a7Z x.1 x.2)
@[go_sem] def b9l:=fun x0 x1 x2 x3 x4 x5=>nm' (fQ' a0z rfl (⟨x0,x1⟩,⟨x2,⟨x3,x4⟩,x5⟩))
@[go_sem] def a6v:ACode:=q' 0 [ax (o' 1 (.box 2 (.t 0))),ab 2 false] (q' 6 [ae 2 1,ac 336 [6],aV 5,ao (.ext (.t 5) 0),ao (.ext (.t 5) 1),av 3 8,aV 4] (q' 10 [am 3,ao (.bin .eql (.t 10)
 (k' 0)),aV 2] .ret))
theorem a8a (p:c4):Z9 Tryz.prog 236 [(true,[.sl false [.i .i64 0,.s [],.i .i64 0] (p.Decls.map d7.cells),.sl false [.i .i64 0,.s [],.sl false [.s [],.i .i64 0,.s []] [],.sl false [.i .i64 0,.s [],.sl false [.s [],.i .i64 0,.s []] [],.i .i64 0,.s [],.i .i64 0,.s [],.s [],.i .i64 0,.s []] []] (p.Rules.map (c6.cells false false))])] [] (.one (false,[.b ((i4 p).1==0)])):=by
 refine sx' false false none Tryz.func236 a6v [.t 2] [(336,[],a1Z)] ?_
 intro hb hE
 simp only [go_sem];(repeat' first | apply CJ.mk | intro hc);all_goals try exact om'
 all_goals (first | rfl)
noncomputable def a0A:CT:=i3 (fun (x:c4)=>a8a x)
@[go_sem] def b9m:=fun x0 x1=>nm' (fQ' a0A rfl ⟨x0,x1⟩)
@[go_sem] theorem c8k (l o:List (List UInt8)):l++List.drop o.length o=l:=by simp
end Go.Aw
