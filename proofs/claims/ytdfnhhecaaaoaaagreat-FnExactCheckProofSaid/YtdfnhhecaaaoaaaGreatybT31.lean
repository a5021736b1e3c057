/- Equalities bind; what holds; the bodies: the mathematics. No condition. -/
import Derived.Test.YtdfnhhecaaaoaaaGreatybT30
import Derived.Test.YtdfnhhecaaaoaaaGreatybT8
namespace Go.Aw
open Go.Proofs
set_option linter.all false
set_option maxRecDepth 100000
def eqS (l:d5) (b:List d4):List d4:=bif a1i l then (bif (j4 ⟨b⟩ l.A).2 then (bif (j4 ⟨b⟩ l.B).2 then b else a3z b l.B.Var (j4 ⟨b⟩ l.A).1) else (bif (j4 ⟨b⟩ l.B).2 then a3z b l.A.Var (j4 ⟨b⟩ l.B).1 else b)) else b
def eqP (r:c6) (b:List d4):Nat→List d4
 | 0=>b
 | n+1=>eqS (r.Body.getD n default) (eqP r b n)
def pass (r:c6) (b:List d4):List d4:=eqP r b r.Body.length
def eqI (r:c6) (b:List d4):Nat→List d4
 | 0=>b
 | k+1=>pass r (eqI r b k)
def IsEq (r:c6) (b c:List d4):Prop:=∃ k,eqI r b k=c∧pass r c=c
theorem b3p {r:c6} {b c:List d4} {k:Nat} (h:eqI r b k=c) (hp:pass r c=c):∀ m,eqI r b (k+m)=c
 | 0=>h
 | m+1=>by rw [show k+(m+1)=(k+m)+1 from rfl,eqI,b3p h hp m,hp]
theorem IsEq.uniq {r:c6} {b c d:List d4} (h1:IsEq r b c) (h2:IsEq r b d):c=d:=by
 obtain ⟨k,h1,p1⟩:=h1
 obtain ⟨m,h2,p2⟩:=h2
 have a:=b3p h1 p1 m
 have b:=b3p h2 p2 k
 rw [Nat.add_comm] at b
 exact a.symm.trans b
inductive EqStep (l:d5) (b:List d4):List d4→Prop
 | same:EqStep l b b
 | right:a1i l=true→(j4 ⟨b⟩ l.A).2=true→(j4 ⟨b⟩ l.B).2=false→EqStep l b (a3z b l.B.Var (j4 ⟨b⟩ l.A).1)
 | left:a1i l=true→(j4 ⟨b⟩ l.B).2=true→(j4 ⟨b⟩ l.A).2=false→EqStep l b (a3z b l.A.Var (j4 ⟨b⟩ l.B).1)
theorem EqStep.len {l:d5} {b c:List d4} (h:EqStep l b c):c=b∨c.length=b.length+1:=by
 cases h with
 | same=>exact .inl rfl
 | right _ _ _=>exact .inr (a5h _ _ _)
 | left _ _ _=>exact .inr (a5h _ _ _)
theorem c3M {r:c6} {l:d5} (hl:l∈r.Body) {t:c8} (ht:t=l.A∨t=l.B) (hv:(t.Var==[])=false):t.Var∈a6E r:=by
 refine List.mem_flatMap.2 ⟨l,hl,List.mem_append.2 (.inr (u9.2 ⟨t, ?_,by rw [t6,hv];rfl,rfl⟩))⟩
 rcases ht with rfl | rfl
 ·exact List.mem_cons_self
 ·exact List.mem_cons_of_mem _ (List.mem_singleton.2 rfl)
theorem c0l {r:c6} {b:List d4} {v:List UInt8} (x:c7) (hv:v∈a6E r) (hn:(o7 ⟨b⟩ v).2=false):miss r ((a3z b v x).map d4.Var) < miss r (b.map d4.Var):=by
 have hm:=b1S hn
 refine a9o (fun y hy=>?_) ⟨v,hv, ?_, ?_⟩
 ·simp only [Bool.not_eq_true',List.contains_eq_mem,decide_eq_false_iff_not] at hy ⊢
  intro h
  rw [a5t x hm] at hy
  exact hy (a8o.2 (.inr h))
 ·simp only [Bool.not_eq_true',List.contains_eq_mem,decide_eq_false_iff_not];exact hm
 ·simp only [Bool.not_eq_false',List.contains_eq_mem,decide_eq_true_eq]
  rw [a5t x hm]
  exact a8o.2 (.inl rfl)
theorem EqStep.miss {r:c6} {l:d5} {b c:List d4} (hl:l∈r.Body) (h:EqStep l b c):c=b∨(c.length=b.length+1∧miss r (c.map d4.Var) < miss r (b.map d4.Var)):=by
 cases h with
 | same=>exact .inl rfl
 | right _ _ h=>
   have h2:=a0f h
   exact .inr ⟨a5h _ _ _,c0l _ (c3M hl (.inr rfl) h2.1) h2.2⟩
 | left _ _ h=>
   have h2:=a0f h
   exact .inr ⟨a5h _ _ _,c0l _ (c3M hl (.inl rfl) h2.1) h2.2⟩
theorem EqStep.ext {l:d5} {b c:List d4} (h:EqStep l b c):ExtB b c:=by
 cases h with
 | same=>exact ExtB.refl _
 | right _ _ h=>exact fun s x hs=>hs.set (a0f h).2
 | left _ _ h=>exact fun s x hs=>hs.set (a0f h).2
theorem b4T {b:List d4} {t:c8} (h:EnvS b) (ht:o5 t=true) (hv:(j4 ⟨b⟩ t).2=true):i8 (j4 ⟨b⟩ t).1=true:=by
 rw [j4] at hv ⊢
 cases hn:t.Var==[] with
 | true=>
   rw [o5,hn] at ht
   simp only [Bool.not_true,cond_false,Bool.and_eq_true] at ht
   exact ht.1
 | false=>
   rw [hn,cond_false] at hv
   rw [cond_false]
   rw [a0Z] at hv ⊢
   cases hf:b.find? (fun x=>x.Var==t.Var) with
   | none=>rw [hf] at hv;cases hv
   | some y=>exact (h.1 y (List.mem_of_find?_eq_some hf)).2
theorem EqStep.ok {r:c6} {l:d5} {b c:List d4} (hr:i9 r=true) (hl:l∈r.Body) (h:EqStep l b c) (hb:EnvS b):EnvS c:=by
 have hlit:a1i l=true→o5 l.A=true∧o5 l.B=true:=by
  intro he
  simp only [i9,Bool.and_eq_true,List.all_eq_true] at hr
  have:=hr.2 l hl
  simp only [a1i,Bool.and_eq_true] at he
  rw [a1b,he.1,cond_true] at this
  simp only [Bool.and_eq_true] at this
  exact ⟨this.1.2,this.2⟩
 cases h with
 | same=>exact hb
 | right h0 h1 h2=>exact hb.set (b4P (hlit h0).2 (a0f h2).1) (b4T hb (hlit h0).1 h1) (a0f h2).2
 | left h0 h1 h2=>exact hb.set (b4P (hlit h0).1 (a0f h2).1) (b4T hb (hlit h0).2 h1) (a0f h2).2
def a5C (s:d8) (e:e8) (l:d5):Bool:=bif l.Kind==2 then !z5 (w6 s l.Atom.Name).1.Rows (k9 e l.Atom.Args).1 else bif l.Kind==3 then n8 l.Op (j4 e l.A).1 (j4 e l.B).1 else true
def a1T (r:c6) (s:d8) (e:e8):Bool:=r.Body.all (a5C s e)
def Rooted (s:d8) (e:e8) (l:d5):Prop:=(l.Kind==1)=true→∃ row∈(w6 s l.Atom.Name).1.Rows,l.Atom.Args.length=row.V.length∧∀ i,i < l.Atom.Args.length→Back e.Binds (l.Atom.Args.getD i default) (row.V.getD i default)
theorem Rooted.ext {s:d8} {e c:e8} {l:d5} (h:Rooted s e l) (he:ExtB e.Binds c.Binds):Rooted s c l:=fun hk=>by
 obtain ⟨row,h1,h2,h3⟩:=h hk
 exact ⟨row,h1,h2,fun i hi=>he _ _ (h3 i hi)⟩
theorem Rooted.has {s:d8} {e:e8} {l:d5} (h:Rooted s e l) (hk:(l.Kind==1)=true):z5 (w6 s l.Atom.Name).1.Rows (k9 e l.Atom.Args).1=true:=by
 obtain ⟨row,h1,h2,h3⟩:=h hk
 rw [show k9 e l.Atom.Args=(row,true) from a9n h2 h3,z5,List.any_eq_true]
 exact ⟨row,h1,by simp⟩
theorem b4L {r:c6} (hr:i9 r=true) {l:d5} (hl:l∈r.Body) (hk:(l.Kind==3)=false):l.Atom.Args.all o5=true∧l.Atom.Args.length≤6:=by
 simp only [i9,Bool.and_eq_true,List.all_eq_true] at hr
 have:=hr.2 l hl
 rw [a1b,hk,cond_false] at this
 simp only [a1D,Bool.and_eq_true,decide_eq_true_eq] at this
 obtain ⟨⟨⟨⟨_,⟨⟨_,h6⟩,hall⟩⟩,_⟩,_⟩,_⟩:=this
 exact ⟨hall,by omega⟩
theorem a9M {v:d8} (h:s9 v=true) (n:List UInt8):a0g (w6 v n).1=true:=by
 unfold w6
 split
 ·rename_i h0
  have hl:=idxL_lt (p:=fun x:c9=>x.Name==n) (l:=v.Rels)
  have hm:(a0H (fun x:c9=>x.Name==n) v.Rels).toNat < v.Rels.length:=by omega
  have:=c0u h _ (List.getElem_mem hm)
  simp only [i6 default hm]
  exact this
 ·rfl
theorem c5N {r:f8} (h:a0g r=true):r.Rows.Nodup:=by
 refine List.pairwise_iff_getElem.2 fun i j hi hj hij e=>?_
 have:=c2r h hij hj
 rw [i6 default hi,i6 default hj,e,b7e] at this
 omega
structure Jn (r:c6) (s:d8) (n:Nat) (l:List e8):Prop where
 alk:∃ vs,Alk vs l
 root:∀ e∈l,∀ i,i < n→Rooted s e (r.Body.getD i default)
 len:∀ e∈l,e.Binds.length≤6 * n
theorem Jn.all {r:c6} {s:d8} (hr:i9 r=true) (hs:s9 s=true):∀ {n:Nat} {l:List e8},n≤r.Body.length→c3J r s n=some l→Jn r s n l
 | 0,l,_,h=>by
   simp only [c3J,Option.some.injEq] at h
   subst h
   refine ⟨⟨[],by simp,fun e he=>?_,fun e he=>?_⟩,fun e _ i hi=>by omega,fun e he=>?_⟩
   ·rw [List.mem_singleton.1 he];exact ⟨by simp,SS.nil⟩
   ·rw [List.mem_singleton.1 he];rfl
   ·rw [List.mem_singleton.1 he];simp
 | n+1,l,hn,h=>by
   have hm:r.Body.getD n default∈r.Body:=by rw [i6 default (by omega)];exact List.getElem_mem _
   rw [c3J] at h
   obtain ⟨d,h1,h2⟩:=Option.bind_eq_some_iff.1 h
   have ih:=Jn.all hr hs (by omega) h1
   cases hk:(r.Body.getD n default).Kind==1 with
   | false=>
     rw [hk,cond_false,Option.some.injEq] at h2
     subst h2
     refine ⟨ih.alk,fun e he i hi=>?_,fun e he=>by have:=ih.len e he;omega⟩
     rcases Nat.lt_or_ge i n with h3 | h3
     ·exact ih.root e he i h3
     ·obtain rfl:i=n:=by omega
      intro h4;rw [hk] at h4;cases h4
   | true=>
     rw [hk,cond_true] at h2
     have h3:((r.Body.getD n default).Kind==3)=false:=by rw [beq_iff_eq] at hk;rw [hk];rfl
     obtain ⟨ha,ha6⟩:=b4L hr hm h3
     have hR:=a9M hs (r.Body.getD n default).Atom.Name
     by_cases hl:(a9N (r.Body.getD n default).Atom.Args (w6 s (r.Body.getD n default).Atom.Name).1.Rows d).length≤2000
     ·rw [decide_eq_true hl,cond_true,Option.some.injEq] at h2
      subst h2
      obtain ⟨vs,halk⟩:=ih.alk
      refine ⟨⟨_,halk.stage ha (c5N hR) fun x hx=>?_⟩,fun e he i hi=>?_,fun e he=>?_⟩
      ·obtain ⟨i,hi,rfl⟩:=List.getElem_of_mem hx
       have:=a1z hR hi
       rw [i6 default hi] at this
       exact List.all_eq_true.2 this
      ·obtain ⟨e0,he0,hc⟩:=List.mem_flatMap.1 he
       obtain ⟨row,hrow,hf⟩:=List.mem_filterMap.1 hc
       have ff:=a1j hf
       rcases Nat.lt_or_ge i n with h4 | h4
       ·exact (ih.root e0 he0 i h4).ext ff.ext
       ·obtain rfl:i=n:=by omega
        exact fun _=>⟨row,hrow,ff.len,ff.back⟩
      ·obtain ⟨e0,he0,hc⟩:=List.mem_flatMap.1 he
       obtain ⟨row,hrow,hf⟩:=List.mem_filterMap.1 hc
       have ff:=a1j hf
       have:=ff.lenB
       have:=ih.len e0 he0
       omega
     ·rw [decide_eq_false hl] at h2;cases h2
end Go.Aw
