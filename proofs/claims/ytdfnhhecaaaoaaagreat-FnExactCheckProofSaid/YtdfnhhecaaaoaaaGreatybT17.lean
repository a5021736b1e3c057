/- Setting a name in a sorted list: mathematics. No condition. -/
import Derived.Test.YtdfnhhecaaaoaaaGreatybT12
namespace Go.Aw
open Go.Proofs
attribute [local irreducible] aft blk lpK retK AW Z9
set_option linter.all false
set_option maxRecDepth 100000
def a0k (n:List UInt8) (v:c9) (q:List c9×Bool) (x:c9):List c9×Bool:=((bif !q.2&&!sLt x.Name n then q.1++[v] else q.1)++(bif x.Name==n then [] else [x]),q.2 || !sLt x.Name n)
def a6i (n:List UInt8) (v:c9) (l:List c9):List c9×Bool:=l.foldl (a0k n v) ([],false)
def a5i (l:List c9) (n:List UInt8) (v:c9):List c9:=bif (a6i n v l).2 then (a6i n v l).1 else (a6i n v l).1++[v]
theorem a3u (n:List UInt8) (v:c9) {l:List c9} {i:Nat} (h:i < l.length):a6i n v (l.take (i+1))=a0k n v (a6i n v (l.take i)) (l.getD i default):=by
 rw [i5 default h,a6i,List.foldl_append];rfl
theorem c3F (n:List UInt8) (v:c9):∀ (A q:List c9),(∀ x∈A,sLt x.Name n=true)→A.foldl (a0k n v) (q,false)=(q++A,false)
 | [],q,_=>by simp
 | x::A,q,h=>by
   have hx:=h x (by simp)
   have hne:(x.Name==n)=false:=beq_eq_false_iff_ne.2 (l6.ne hx)
   rw [List.foldl_cons,a0k,hx,hne]
   have:=c3F n v A (q++[x]) fun y hy=>h y (by simp [hy])
   simpa using this
theorem a9r (n:List UInt8) (v:c9):∀ (B q:List c9),B.foldl (a0k n v) (q,true)=(q++B.filter fun x=>!(x.Name==n),true)
 | [],q=>by simp
 | x::B,q=>by
   rw [List.foldl_cons,a0k]
   cases h:(x.Name==n) with
   | true=>
     have:=a9r n v B q
     simpa [h] using this
   | false=>
     have:=a9r n v B (q++[x])
     simpa [h] using this
theorem c2v {α:Type} {q:α→Bool}:∀ {l:List α} {x:α},x∈l.takeWhile q→q x=true
 | [],x,h=>by simp at h
 | a::l,x,h=>by
   rw [List.takeWhile_cons] at h
   split at h
   ·rename_i ha
    rcases List.mem_cons.1 h with rfl | h
    ·exact ha
    ·exact c2v h
   ·simp at h
theorem a8t (l:List c9) (n:List UInt8) (v:c9):a5i l n v=l.takeWhile (fun x=>sLt x.Name n)++v::(l.dropWhile fun x=>sLt x.Name n).filter fun x=>!(x.Name==n):=by
 have e:a6i n v l=(l.dropWhile fun x=>sLt x.Name n).foldl (a0k n v) (l.takeWhile (fun x=>sLt x.Name n),false):=by
  have h0:=c3F n v (l.takeWhile fun x=>sLt x.Name n) [] fun x hx=>c2v (q:=fun x:c9=>sLt x.Name n) hx
  rw [List.nil_append] at h0
  rw [← h0,← List.foldl_append,List.takeWhile_append_dropWhile];rfl
 rw [a5i,e]
 cases hB:l.dropWhile fun x=>sLt x.Name n with
 | nil=>simp
 | cons b B=>
   have hb:=a0G hB
   rw [List.foldl_cons,a0k,hb]
   simp only [Bool.not_false,Bool.and_self,cond_true,Bool.or_true]
   rw [a9r]
   cases hn:(b.Name==n) with
   | true=>simp [hn]
   | false=>simp [hn]
theorem c2s {l:List c9} (hs:SS sLt (l.map c9.Name)) (n:List UInt8) (r:f8):(a5i l n ⟨n,r⟩).map c9.Name=a0r sLt (l.map c9.Name) n:=by
 have hsplit:l=l.takeWhile (fun x=>sLt x.Name n)++l.dropWhile (fun x=>sLt x.Name n):=List.takeWhile_append_dropWhile.symm
 have hA:∀ x∈l.takeWhile (fun x=>sLt x.Name n),sLt x.Name n=true:=fun x hx=>c2v (q:=fun x:c9=>sLt x.Name n) hx
 have hBn:∀ x∈l.dropWhile (fun x=>sLt x.Name n),sLt x.Name n=false:=by
  cases hB:l.dropWhile fun x=>sLt x.Name n with
  | nil=>intro x hx;simp at hx
  | cons b B=>
    have hb:=a0G hB
    intro x hx
    rcases List.mem_cons.1 hx with rfl | hx
    ·exact hb
    ·have hp:(l.dropWhile fun x=>sLt x.Name n).Pairwise fun a b=>sLt a.Name b.Name=true:=by
      have:=List.pairwise_map.1 hs
      rw [hsplit] at this
      exact (List.pairwise_append.1 this).2.1
     rw [hB] at hp
     have h1:=(List.pairwise_cons.1 hp).1 x hx
     cases h2:sLt x.Name n with
     | false=>rfl
     | true=>
       have h3:sLt b.Name n=true:=a0L _ _ _ h1 h2
       rw [h3] at hb;exact hb
 refine SS.uniq l6 ?_ (SS.put l6 hs n) fun x=>?_
 ·rw [a8t]
  show SS sLt _
  rw [SS,List.pairwise_map]
  have hp:=List.pairwise_map.1 hs
  rw [hsplit] at hp
  obtain ⟨p1,p2,p3⟩:=List.pairwise_append.1 hp
  have hgt:∀ x∈(l.dropWhile fun x=>sLt x.Name n).filter (fun x=>!(x.Name==n)),sLt n x.Name=true:=fun x hx=>by
   obtain ⟨h1,h2⟩:=List.mem_filter.1 hx
   have h3:=hBn x h1
   cases h4:sLt n x.Name with
   | true=>rfl
   | false=>
     have h5:=a1B _ _ h3 h4
     rw [h5] at h2;simp at h2
  refine List.pairwise_append.2 ⟨p1,List.pairwise_cons.2 ⟨hgt,p2.filter _⟩,fun a ha b hb=>?_⟩
  rcases List.mem_cons.1 hb with rfl | hb
  ·exact hA a ha
  ·exact a0L _ _ _ (hA a ha) (hgt b hb)
 ·rw [a8o,a8t]
  simp only [List.map_append,List.map_cons,List.mem_append,List.mem_cons,List.mem_map,List.mem_filter]
  constructor
  ·rintro (⟨y,hy,rfl⟩ | rfl | ⟨y,⟨hy,_⟩,rfl⟩)
   ·exact .inr ⟨y,by rw [hsplit];exact List.mem_append.2 (.inl hy),rfl⟩
   ·exact .inl rfl
   ·exact .inr ⟨y,by rw [hsplit];exact List.mem_append.2 (.inr hy),rfl⟩
  ·rintro (rfl | ⟨y,hy,rfl⟩)
   ·exact .inr (.inl rfl)
   ·rw [hsplit] at hy
    rcases List.mem_append.1 hy with hy | hy
    ·exact .inl ⟨y,hy,rfl⟩
    ·by_cases e:y.Name=n
     ·exact .inr (.inl e)
     ·exact .inr (.inr ⟨y,⟨hy,by simpa using e⟩,rfl⟩)
theorem c7Q {l:List c9} {n:List UInt8} {v x:c9} (h:x∈a5i l n v):x=v∨x∈l:=by
 rw [a8t] at h
 rcases List.mem_append.1 h with h | h
 ·exact .inr (List.takeWhile_sublist _ |>.mem h)
 ·rcases List.mem_cons.1 h with h | h
  ·exact .inl h
  ·exact .inr (List.dropWhile_sublist _ |>.mem (List.mem_filter.1 h).1)
def p8 (l:List d7):List c9:=l.foldl (fun s d=>a5i s d.Name ⟨d.Name,⟨d.Arity,[]⟩⟩) []
theorem a3t:∀ l:List d7,(p8 l).map c9.Name=l4 sLt [] (l.map d7.Name):=by
 intro l
 have gen:∀ (l:List d7) (s:List c9),SS sLt (s.map c9.Name)→(l.foldl (fun s d=>a5i s d.Name ⟨d.Name,⟨d.Arity,[]⟩⟩) s).map c9.Name=l4 sLt (s.map c9.Name) (l.map d7.Name):=by
  intro l
  induction l with
  | nil=>intro s _;rfl
  | cons d l ih=>
    intro s hs
    have e:=c2s hs d.Name ⟨d.Arity,[]⟩
    have hs2:SS sLt ((a5i s d.Name ⟨d.Name,⟨d.Arity,[]⟩⟩).map c9.Name):=by rw [e];exact SS.put l6 hs _
    rw [List.foldl_cons,ih _ hs2,e];rfl
 exact gen l [] SS.nil
theorem b9C:∀ l:List d7,∀ x∈p8 l,x.Rel.Rows=[]:=by
 intro l
 have gen:∀ (l:List d7) (s:List c9),(∀ x∈s,x.Rel.Rows=[])→∀ x∈l.foldl (fun s d=>a5i s d.Name ⟨d.Name,⟨d.Arity,[]⟩⟩) s,x.Rel.Rows=[]:=by
  intro l
  induction l with
  | nil=>intro s h;exact h
  | cons d l ih=>
    intro s h
    rw [List.foldl_cons]
    refine ih _ fun x hx=>?_
    rcases c7Q hx with rfl | hx
    ·rfl
    ·exact h x hx
 exact gen l [] (by simp)
theorem a6G (l:List d7):(p8 l).length≤l.length:=by
 have h:=congrArg List.length (a3t l)
 have h2:=a0I sLt (l.map d7.Name) []
 simp only [List.length_map,List.length_nil] at h h2
 omega
end Go.Aw
