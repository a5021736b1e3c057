/- Equalities bind; what holds; the bodies: the mathematics. No condition. -/
import Derived.Test.YtdfnhhecaaaoaaaGreatyaT30
import Derived.Test.YtdfnhhecaaaoaaaGreatyaT8
namespace Go.Aw
open Go.Proofs
set_option linter.all false
set_option maxRecDepth 100000
def eqS (l:d6) (b:List d5):List d5:=bif a1h l then (bif (j4 ⟨b⟩ l.A).2 then (bif (j4 ⟨b⟩ l.B).2 then b else a3x b l.B.Var (j4 ⟨b⟩ l.A).1) else (bif (j4 ⟨b⟩ l.B).2 then a3x b l.A.Var (j4 ⟨b⟩ l.B).1 else b)) else b
def eqP (r:c6) (b:List d5):Nat→List d5
 | 0=>b
 | n+1=>eqS (r.Body.getD n default) (eqP r b n)
def pass (r:c6) (b:List d5):List d5:=eqP r b r.Body.length
def eqI (r:c6) (b:List d5):Nat→List d5
 | 0=>b
 | k+1=>pass r (eqI r b k)
def IsEq (r:c6) (b c:List d5):Prop:=∃ k,eqI r b k=c∧pass r c=c
theorem b3i {r:c6} {b c:List d5} {k:Nat} (h:eqI r b k=c) (hp:pass r c=c):∀ m,eqI r b (k+m)=c
 | 0=>h
 | m+1=>by rw [show k+(m+1)=(k+m)+1 from rfl,eqI,b3i h hp m,hp]
theorem IsEq.uniq {r:c6} {b c d:List d5} (h1:IsEq r b c) (h2:IsEq r b d):c=d:=by
 obtain ⟨k,h1,p1⟩:=h1
 obtain ⟨m,h2,p2⟩:=h2
 have a:=b3i h1 p1 m
 have b:=b3i h2 p2 k
 rw [Nat.add_comm] at b
 exact a.symm.trans b
inductive EqStep (l:d6) (b:List d5):List d5→Prop
 | same:EqStep l b b
 | right:a1h l=true→(j4 ⟨b⟩ l.A).2=true→(j4 ⟨b⟩ l.B).2=false→EqStep l b (a3x b l.B.Var (j4 ⟨b⟩ l.A).1)
 | left:a1h l=true→(j4 ⟨b⟩ l.B).2=true→(j4 ⟨b⟩ l.A).2=false→EqStep l b (a3x b l.A.Var (j4 ⟨b⟩ l.B).1)
theorem EqStep.len {l:d6} {b c:List d5} (h:EqStep l b c):c=b∨c.length=b.length+1:=by
 cases h with
 | same=>exact .inl rfl
 | right _ _ _=>exact .inr (a5h _ _ _)
 | left _ _ _=>exact .inr (a5h _ _ _)
theorem c3F {r:c6} {l:d6} (hl:l∈r.Body) {t:c8} (ht:t=l.A∨t=l.B) (hv:(t.Var==[])=false):t.Var∈a6B r:=by
 refine List.mem_flatMap.2 ⟨l,hl,List.mem_append.2 (.inr (u7.2 ⟨t, ?_,by rw [t6,hv];rfl,rfl⟩))⟩
 rcases ht with rfl | rfl
 ·exact List.mem_cons_self
 ·exact List.mem_cons_of_mem _ (List.mem_singleton.2 rfl)
theorem c0e {r:c6} {b:List d5} {v:List UInt8} (x:c7) (hv:v∈a6B r) (hn:(o7 ⟨b⟩ v).2=false):miss r ((a3x b v x).map d5.Var) < miss r (b.map d5.Var):=by
 have hm:=b1K hn
 refine a9i (fun y hy=>?_) ⟨v,hv, ?_, ?_⟩
 ·simp only [Bool.not_eq_true',List.contains_eq_mem,decide_eq_false_iff_not] at hy ⊢
  intro h
  rw [a5t x hm] at hy
  exact hy (a8k.2 (.inr h))
 ·simp only [Bool.not_eq_true',List.contains_eq_mem,decide_eq_false_iff_not];exact hm
 ·simp only [Bool.not_eq_false',List.contains_eq_mem,decide_eq_true_eq]
  rw [a5t x hm]
  exact a8k.2 (.inl rfl)
theorem EqStep.miss {r:c6} {l:d6} {b c:List d5} (hl:l∈r.Body) (h:EqStep l b c):c=b∨(c.length=b.length+1∧miss r (c.map d5.Var) < miss r (b.map d5.Var)):=by
 cases h with
 | same=>exact .inl rfl
 | right _ _ h=>
   have h2:=a0c h
   exact .inr ⟨a5h _ _ _,c0e _ (c3F hl (.inr rfl) h2.1) h2.2⟩
 | left _ _ h=>
   have h2:=a0c h
   exact .inr ⟨a5h _ _ _,c0e _ (c3F hl (.inl rfl) h2.1) h2.2⟩
theorem EqStep.ext {l:d6} {b c:List d5} (h:EqStep l b c):ExtB b c:=by
 cases h with
 | same=>exact ExtB.refl _
 | right _ _ h=>exact fun s x hs=>hs.set (a0c h).2
 | left _ _ h=>exact fun s x hs=>hs.set (a0c h).2
theorem b4N {b:List d5} {t:c8} (h:EnvS b) (ht:o5 t=true) (hv:(j4 ⟨b⟩ t).2=true):i8 (j4 ⟨b⟩ t).1=true:=by
 rw [j4] at hv ⊢
 cases hn:t.Var==[] with
 | true=>
   rw [o5,hn] at ht
   simp only [Bool.not_true,cond_false,Bool.and_eq_true] at ht
   exact ht.1
 | false=>
   rw [hn,cond_false] at hv
   rw [cond_false]
   rw [a0Y] at hv ⊢
   cases hf:b.find? (fun x=>x.Var==t.Var) with
   | none=>rw [hf] at hv;cases hv
   | some y=>exact (h.1 y (List.mem_of_find?_eq_some hf)).2
theorem EqStep.ok {r:c6} {l:d6} {b c:List d5} (hr:i9 r=true) (hl:l∈r.Body) (h:EqStep l b c) (hb:EnvS b):EnvS c:=by
 have hlit:a1h l=true→o5 l.A=true∧o5 l.B=true:=by
  intro he
  simp only [i9,Bool.and_eq_true,List.all_eq_true] at hr
  have:=hr.2 l hl
  simp only [a1h,Bool.and_eq_true] at he
  rw [a1a,he.1,cond_true] at this
  simp only [Bool.and_eq_true] at this
  exact ⟨this.1.2,this.2⟩
 cases h with
 | same=>exact hb
 | right h0 h1 h2=>exact hb.set (b4J (hlit h0).2 (a0c h2).1) (b4N hb (hlit h0).1 h1) (a0c h2).2
 | left h0 h1 h2=>exact hb.set (b4J (hlit h0).1 (a0c h2).1) (b4N hb (hlit h0).2 h1) (a0c h2).2
def a5C (s:d9) (e:f5) (l:d6):Bool:=bif l.Kind==2 then !y7 (w5 s l.Atom.Name).1.Rows (k9 e l.Atom.Args).1 else bif l.Kind==3 then n8 l.Op (j4 e l.A).1 (j4 e l.B).1 else true
def a1T (r:c6) (s:d9) (e:f5):Bool:=r.Body.all (a5C s e)
def Rooted (s:d9) (e:f5) (l:d6):Prop:=(l.Kind==1)=true→∃ row∈(w5 s l.Atom.Name).1.Rows,l.Atom.Args.length=row.V.length∧∀ i,i < l.Atom.Args.length→Back e.Binds (l.Atom.Args.getD i default) (row.V.getD i default)
theorem Rooted.ext {s:d9} {e c:f5} {l:d6} (h:Rooted s e l) (he:ExtB e.Binds c.Binds):Rooted s c l:=fun hk=>by
 obtain ⟨row,h1,h2,h3⟩:=h hk
 exact ⟨row,h1,h2,fun i hi=>he _ _ (h3 i hi)⟩
theorem Rooted.has {s:d9} {e:f5} {l:d6} (h:Rooted s e l) (hk:(l.Kind==1)=true):y7 (w5 s l.Atom.Name).1.Rows (k9 e l.Atom.Args).1=true:=by
 obtain ⟨row,h1,h2,h3⟩:=h hk
 rw [show k9 e l.Atom.Args=(row,true) from a9h h2 h3,y7,List.any_eq_true]
 exact ⟨row,h1,by simp⟩
theorem b4F {r:c6} (hr:i9 r=true) {l:d6} (hl:l∈r.Body) (hk:(l.Kind==3)=false):l.Atom.Args.all o5=true∧l.Atom.Args.length≤6:=by
 simp only [i9,Bool.and_eq_true,List.all_eq_true] at hr
 have:=hr.2 l hl
 rw [a1a,hk,cond_false] at this
 simp only [a1D,Bool.and_eq_true,decide_eq_true_eq] at this
 obtain ⟨⟨⟨⟨_,⟨⟨_,h6⟩,hall⟩⟩,_⟩,_⟩,_⟩:=this
 exact ⟨hall,by omega⟩
theorem a9G {v:d9} (h:s9 v=true) (n:List UInt8):a0d (w5 v n).1=true:=by
 unfold w5
 split
 ·rename_i h0
  have hl:=idxL_lt (p:=fun x:c9=>x.Name==n) (l:=v.Rels)
  have hm:(a0G (fun x:c9=>x.Name==n) v.Rels).toNat < v.Rels.length:=by omega
  have:=c0n h _ (List.getElem_mem hm)
  simp only [i6 default hm]
  exact this
 ·rfl
theorem c5I {r:f8} (h:a0d r=true):r.Rows.Nodup:=by
 refine List.pairwise_iff_getElem.2 fun i j hi hj hij e=>?_
 have:=c2k h hij hj
 rw [i6 default hi,i6 default hj,e,b7a] at this
 omega
structure Jn (r:c6) (s:d9) (n:Nat) (l:List f5):Prop where
 alk:∃ vs,Alk vs l
 root:∀ e∈l,∀ i,i < n→Rooted s e (r.Body.getD i default)
 len:∀ e∈l,e.Binds.length≤6 * n
theorem Jn.all {r:c6} {s:d9} (hr:i9 r=true) (hs:s9 s=true):∀ {n:Nat} {l:List f5},n≤r.Body.length→c3C r s n=some l→Jn r s n l
 | 0,l,_,h=>by
   simp only [c3C,Option.some.injEq] at h
   subst h
   refine ⟨⟨[],by simp,fun e he=>?_,fun e he=>?_⟩,fun e _ i hi=>by omega,fun e he=>?_⟩
   ·rw [List.mem_singleton.1 he];exact ⟨by simp,SS.nil⟩
   ·rw [List.mem_singleton.1 he];rfl
   ·rw [List.mem_singleton.1 he];simp
 | n+1,l,hn,h=>by
   have hm:r.Body.getD n default∈r.Body:=by rw [i6 default (by omega)];exact List.getElem_mem _
   rw [c3C] at h
   obtain ⟨d,h1,h2⟩:=Option.bind_eq_some_iff.1 h
   have ih:=Jn.all hr hs (by omega) h1
   cases hk:(r.Body.getD n default).Kind==1 with
   | false=>
     rw [hk,cond_false,Option.some.injEq] at h2
     subst h2
     refine ⟨ih.alk,fun e he i hi=>?_,fun e he=>by have:=ih.len e he;omega⟩
     rcases Nat.lt_or_ge i n with h3 | h3
     ·exact ih.root e he i h3
     ·obtain rfl:i=n:=by omega
      intro h4;rw [hk] at h4;cases h4
   | true=>
     rw [hk,cond_true] at h2
     have h3:((r.Body.getD n default).Kind==3)=false:=by rw [beq_iff_eq] at hk;rw [hk];rfl
     obtain ⟨ha,ha6⟩:=b4F hr hm h3
     have hR:=a9G hs (r.Body.getD n default).Atom.Name
     by_cases hl:(a9H (r.Body.getD n default).Atom.Args (w5 s (r.Body.getD n default).Atom.Name).1.Rows d).length≤2000
     ·rw [decide_eq_true hl,cond_true,Option.some.injEq] at h2
      subst h2
      obtain ⟨vs,halk⟩:=ih.alk
      refine ⟨⟨_,halk.stage ha (c5I hR) fun x hx=>?_⟩,fun e he i hi=>?_,fun e he=>?_⟩
      ·obtain ⟨i,hi,rfl⟩:=List.getElem_of_mem hx
       have:=a1z hR hi
       rw [i6 default hi] at this
       exact List.all_eq_true.2 this
      ·obtain ⟨e0,he0,hc⟩:=List.mem_flatMap.1 he
       obtain ⟨row,hrow,hf⟩:=List.mem_filterMap.1 hc
       have ff:=a1i hf
       rcases Nat.lt_or_ge i n with h4 | h4
       ·exact (ih.root e0 he0 i h4).ext ff.ext
       ·obtain rfl:i=n:=by omega
        exact fun _=>⟨row,hrow,ff.len,ff.back⟩
      ·obtain ⟨e0,he0,hc⟩:=List.mem_flatMap.1 he
       obtain ⟨row,hrow,hf⟩:=List.mem_filterMap.1 hc
       have ff:=a1i hf
       have:=ff.lenB
       have:=ih.len e0 he0
       omega
     ·rw [decide_eq_false hl] at h2;cases h2
end Go.Aw
