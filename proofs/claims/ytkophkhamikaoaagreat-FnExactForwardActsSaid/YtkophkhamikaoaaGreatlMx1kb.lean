/- Lists in a strict order: what is in them decides them; putting in, sorting, striking out what stands twice. No program. No condition. -/
import Derived.Lib.SlicesCompact
import GoSem.Op.String
namespace Go.Aw
set_option linter.all false
structure STO{α:Type}(lt:α->α->Bool):Prop where
 irr:∀x,lt x x=false
 tr:∀x y z,lt x y=true->lt y z=true->lt x z=true
 tri:∀x y,lt x y=false->lt y x=false->x=y
variable{α:Type}{l:List α}{x y:α}{lt:α->α->Bool}
def STO.asy(o:STO lt)(h:lt x y=true):lt y x=false:=by
 cases e:lt y x with
 | false=>rfl
 | true=>have:=o.tr x y x h e;rw[o.irr]at this;cases this
def STO.ne(o:STO lt)(h:lt x y=true):x≠y:=by
 rintro rfl;rw[o.irr]at h;cases h
def SS(lt:α->α->Bool)(l:List α):Prop:=l.Pairwise fun a b=>lt a b=true
def SS.uniq{α:Type}{lt:α->α->Bool}(o:STO lt):∀{l r:List α},SS lt l->SS lt r->(∀x,x∈l↔x∈r)->l=r
 | [],[],_,_,_=>rfl
 | [],y::r,_,_,h=>absurd ((h y).2 (by simp)) (by simp)
 | x::l,[],_,_,h=>absurd ((h x).1 (by simp)) (by simp)
 | x::l,y::r,hl,hr,h=>by
   unfold SS at hl hr;rw[List.pairwise_cons]at hl hr;have e:x=y:=by
    rcases List.mem_cons.1 ((h x).1 (by simp))with e|hx
    ·exact e
    ·rcases List.mem_cons.1 ((h y).2 (by simp))with e|hy
     ·exact e.symm
     ·have h1:=hr.1 x hx;have h2:=hl.1 y hy;rw[o.asy h1]at h2;cases h2
   subst e
   congr 1
   refine SS.uniq o hl.2 hr.2 fun z=>⟨fun hz=>?_,fun hz=>?_⟩
   ·rcases List.mem_cons.1 ((h z).1 (by simp[hz]))with rfl|hz'
    ·exact absurd (hl.1 z hz) (by rw[o.irr];simp)
    ·exact hz'
   ·rcases List.mem_cons.1 ((h z).2 (by simp[hz]))with rfl|hz'
    ·exact absurd (hr.1 z hz) (by rw[o.irr];simp)
    ·exact hz'
def a1j[DecidableEq α](lt:α->α->Bool)(l:List α)(s:α):List α:=if s∈l then l else l.takeWhile (fun x=>!lt s x)++s::l.dropWhile (fun x=>!lt s x)
def b3U[DecidableEq α]{s:α}:x∈a1j lt l s↔x=s\/x∈l:=by
 unfold a1j;split
 ·rename_i h;constructor
  ·exact .inr
  ·rintro(rfl|h2)
   ·exact h
   ·exact h2
 ·have e:=List.takeWhile_append_dropWhile (p:=fun x=>!lt s x) (l:=l);constructor
  ·intro h;rw[<-e];simp only[List.mem_append,List.mem_cons]at h ⊢;rcases h with h|h|h
   ·exact .inr (.inl h)
   ·exact .inl h
   ·exact .inr (.inr h)
  ·rintro(rfl|h)
   ·simp
   ·rw[<-e]at h;simp only[List.mem_append,List.mem_cons]at h ⊢;rcases h with h|h
    ·exact .inl h
    ·exact .inr (.inr h)
def a1J{α:Type}{p:α->Bool}:∀{l:List α} {x:α} {r:List α},l.dropWhile p=x::r->p x=false
 | [],x,r,h=>by simp at h
 | y::l,x,r,h=>by
   rw[List.dropWhile_cons]at h;split at h
   ·exact a1J h
   ·rename_i hp;simp only[List.cons.injEq]at h;rw[<-h.1];simpa using hp
def SS.put[DecidableEq α](o:STO lt)(h:SS lt l)(s:α):SS lt (a1j lt l s):=by
 unfold a1j;split
 ·exact h
 ·rename_i hs;have e:=List.takeWhile_append_dropWhile (p:=fun x=>!lt s x) (l:=l);have h0:=h;rw[<-e]at h;unfold SS at h ⊢;rw[List.pairwise_append]at h ⊢;have h1:∀x∈l.takeWhile (fun x=>!lt s x),lt x s=true:=by
   intro x hx;have hp:lt s x=false:=by
    have:=List.all_takeWhile (p:=fun x=>!lt s x) (l:=l);rw[List.all_eq_true]at this;simpa using this x hx
   have hne:x≠s:=fun q=>hs (by rw[<-q];rw[<-e];exact List.mem_append_left _ hx)
   cases hq:lt x s with
   | true=>rfl
   | false=>exact absurd (o.tri x s hq hp) hne
  have h2:∀x∈l.dropWhile (fun x=>!lt s x),lt s x=true:=by
   cases hd:l.dropWhile (fun x=>!lt s x)with
   | nil=>intro x hx;cases hx
   | cons y r=>
     have hy:lt s y=true:=by simpa using a1J hd
     intro x hx;rcases List.mem_cons.1 hx with rfl|hx
     ·exact hy
     ·have h3:=h.2.1;rw[hd,List.pairwise_cons]at h3;exact o.tr _ _ _ hy (h3.1 x hx)
  refine⟨h.1, ?_, ?_⟩
  ·rw[List.pairwise_cons];exact⟨h2,h.2.1⟩
  ·intro a ha b hb;rcases List.mem_cons.1 hb with rfl|hb
   ·exact h1 a ha
   ·exact h.2.2 a ha b hb
def l5[DecidableEq α](lt:α->α->Bool)(l r:List α):List α:=r.foldl (a1j lt) l
def o7{α:Type}[DecidableEq α]{lt:α->α->Bool}{x:α}:∀{r l:List α},x∈l5 lt l r↔x∈l\/x∈r
 | [],l=>by simp[l5]
 | y::r,l=>by
   have:=o7 (lt:=lt) (x:=x) (r:=r) (l:=a1j lt l y);unfold l5 at this ⊢;rw[List.foldl_cons,this,b3U,List.mem_cons];constructor
   ·rintro((h|h)|h)
    ·exact .inr (.inl h)
    ·exact .inl h
    ·exact .inr (.inr h)
   ·rintro(h|h|h)
    ·exact .inl (.inr h)
    ·exact .inl (.inl h)
    ·exact .inr h
def SS.puts{α:Type}[DecidableEq α]{lt:α->α->Bool}(o:STO lt):∀{r l:List α},SS lt l->SS lt (l5 lt l r)
 | [],l,h=>h
 | y::r,l,h=>by
   unfold l5;rw[List.foldl_cons];exact SS.puts o (h.put o y)
def SS.filter(h:SS lt l)(p:α->Bool):SS lt (l.filter p):=List.Pairwise.filter p h
def SS.nil:SS lt ([]:List α):=List.Pairwise.nil
def SS.nodup(o:STO lt)(h:SS lt l):l.Nodup:=List.Pairwise.imp (fun h=>o.ne h) h
def a1a(lt:α->α->Bool)(l:List α):List α:=l.mergeSort fun x y=>!lt y x
def a1q(lt:α->α->Bool)(l:List α):(a1a lt l).Perm l:=List.mergeSort_perm l _
def b6e:x∈a1a lt l↔x∈l:=(a1q lt l).mem_iff
def a7w(o:STO lt)(l:List α):(a1a lt l).Pairwise fun a b=>lt b a=false:=by
 have:=List.pairwise_mergeSort (le:=fun x y=>!lt y x) (fun a b c h1 h2=>by
  simp only[Bool.not_eq_true']at h1 h2 ⊢;cases e:lt c a with
  | false=>rfl
  | true=>
    by_cases hab:a=b
    ·subst hab;rw[e]at h2;cases h2
    ·have h3:lt a b=true:=by
      cases q:lt a b with
      | true=>rfl
      | false=>exact absurd (o.tri a b q h1) hab
     have:=o.tr c a b e h3;rw[h2]at this;cases this) (fun a b=>by
  cases h:lt b a with
  | false=>simp
  | true=>simp[o.asy h]) l
 exact this.imp (fun h=>by simpa using h)
def SS.of_sorted(o:STO lt)(h:l.Pairwise fun a b=>lt b a=false)(hn:l.Nodup):SS lt l:=by
 unfold SS;have:=h.and hn;refine this.imp ?_;rintro a b ⟨h1,h2⟩;cases e:lt a b with
 | true=>rfl
 | false=>exact absurd (o.tri a b e h1) h2
def d3Q[Inhabited α][DecidableEq α](o:STO lt)(h:l.Pairwise fun a b=>lt b a=false):SS lt (Lib.compact l):=by
 unfold Lib.compact Lib.compactUpTo SS;rw[List.pairwise_map];have hr:((List.range l.length).filter (Lib.keeps l.toArray)).Pairwise fun i j=>(i<j/\i<l.length)/\(j<l.length/\Lib.keeps l.toArray j=true):=by
  have h1:=(List.pairwise_lt_range (n:=l.length)).filter (Lib.keeps l.toArray);rw[List.pairwise_iff_forall_sublist]at h1 ⊢;intro a b hab;have ma:a∈(List.range l.length).filter (Lib.keeps l.toArray):=hab.subset (by simp);have mb:b∈(List.range l.length).filter (Lib.keeps l.toArray):=hab.subset (by simp);rw[List.mem_filter,List.mem_range]at ma mb;exact⟨⟨h1 hab,ma.1⟩,mb⟩
 refine hr.imp ?_;rintro i j ⟨⟨h1,h2⟩,h3,h4⟩;have g:∀k (hk:k<l.length),l.toArray[k]! = l[k]:=by
  intro k hk;simp[hk]
 rw[g i h2,g j h3];have hs:=List.pairwise_iff_getElem.1 h;have hk:l[j-1]≠l[j]:=by
  unfold Lib.keeps at h4;have:j≠0:=by omega
  simp only[this,decide_false,Bool.false_or,decide_eq_true_eq,bne_iff_ne,ne_eq,beq_iff_eq]at h4;rw[g j h3,g (j-1) (by omega)]at h4;rcases h4 with h4|h4
  ·exact h4.elim
  ·exact fun e=>h4 e.symm
 have h5:lt l[j-1] l[j]=true:=by
  cases e:lt l[j-1] l[j]with
  | true=>rfl
  | false=>exact absurd (o.tri _ _ e (hs (j-1) j (by omega) h3 (by omega))) hk
 by_cases hij:i=j-1
 ·subst hij;exact h5
 ·have h6:=hs i (j-1) h2 (by omega) (by omega);cases e:lt l[i] l[j]with
  | true=>rfl
  | false=>
    by_cases he:l[i]=l[j-1]
    ·rw[he,h5]at e;cases e
    ·have h7:lt l[i] l[j-1]=true:=by
      cases q:lt l[i] l[j-1]with
      | true=>rfl
      | false=>exact absurd (o.tri _ _ q h6) he
     rw[o.tr _ _ _ h7 h5]at e;cases e
def b6K[Inhabited α][DecidableEq α]:x∈Lib.compact l↔x∈l:=by
 unfold Lib.compact Lib.compactUpTo;have g:∀k (hk:k<l.length),l.toArray[k]! = l[k]:=by
  intro k hk;simp[hk]
 constructor
 ·intro h;obtain⟨i,hi,rfl⟩:=List.mem_map.1 h;have:=(List.mem_filter.1 hi).1;rw[List.mem_range]at this;rw[g i this];exact List.getElem_mem this
 ·intro h;have hex:∃i,∃hi:i<l.length,l[i]=x/\∀j (hj:j<i),l[j]≠x:=by
   refine⟨l.findIdx (·==x),List.findIdx_lt_length_of_exists ⟨x,h,by simp⟩, ?_, ?_⟩
   ·have:=List.findIdx_getElem (p:=(·==x)) (xs:=l) (w:=List.findIdx_lt_length_of_exists ⟨x,h,by simp⟩);simpa using this
   ·intro j hj;have:=List.not_of_lt_findIdx hj;simpa using this
  obtain⟨i,hi,e,hf⟩:=hex;refine List.mem_map.2 ⟨i,List.mem_filter.2 ⟨List.mem_range.2 hi, ?_⟩,by rw[g i hi,e]⟩;unfold Lib.keeps;by_cases h0:i=0
  ·simp[h0]
  ·have:=hf (i-1) (by omega);simp only[h0,decide_false,Bool.false_or];rw[g i hi,g (i-1) (by omega),e];simpa using fun q=>this (by first|exact q|exact q.symm)
def a2N[Inhabited α][DecidableEq α](o:STO lt){r:List α}(hr:SS lt r)(hm:∀x,x∈r↔x∈l):Lib.compact (a1a lt l)=r:=
 SS.uniq o (d3Q o (a7w o l)) hr fun x=>by rw[b6K,b6e,hm]
def iLt(a b:Int):Bool:=decide (a<b)
def c7z:STO iLt where
 irr:=fun x=>by simp[iLt]
 tr:=fun x y z h1 h2=>by simp only[iLt,decide_eq_true_eq]at*;omega
 tri:=fun x y h1 h2=>by simp only[iLt,decide_eq_false_iff_not]at*;omega
def a1y:∀x:List UInt8,Op.bytesLess x x=false
 | []=>rfl
 | a::l=>by simp[Op.bytesLess,a1y l]
def a3m:∀x y:List UInt8,Op.bytesLess x y=false->Op.bytesLess y x=false->x=y
 | [],[],_,_=>rfl
 | [],b::r,h,_=>by simp[Op.bytesLess]at h
 | a::l,[],_,h=>by simp[Op.bytesLess]at h
 | a::l,b::r,h1,h2=>by
   simp only[Op.bytesLess]at h1 h2;have:∀c d:UInt8,c<d\/c=d\/d<c:=by intro c d;rcases Nat.lt_trichotomy c.toNat d.toNat with h|h|h;exact .inl h;exact .inr (.inl (UInt8.toNat_inj.1 h));exact .inr (.inr h)
   rcases this a b with h|h|h
   ·simp[h]at h1
   ·subst h;simp only[UInt8.lt_irrefl,decide_false,Bool.false_or,beq_self_eq_true,Bool.true_and]at h1 h2;first|rw[a3m l r h1 h2]|(simp at h1 h2;rw[a3m l r h1 h2])
   ·simp[h]at h2
def a2h:∀x y z:List UInt8,Op.bytesLess x y=true->Op.bytesLess y z=true->Op.bytesLess x z=true
 | _,[],_,h,_=>by simp[Op.bytesLess]at h
 | [],_::_,[],_,h=>by simp[Op.bytesLess]at h
 | [],_::_,_::_,_,_=>rfl
 | _::_,_::_,[],_,h=>by simp[Op.bytesLess]at h
 | a::l,b::r,c::s,h1,h2=>by
   simp only[Op.bytesLess,Bool.or_eq_true,Bool.and_eq_true,decide_eq_true_eq,beq_iff_eq]at h1 h2 ⊢;rcases h1 with h1|⟨rfl,h1⟩
   ·rcases h2 with h2|⟨rfl,h2⟩
    ·exact .inl (UInt8.lt_trans h1 h2)
    ·exact .inl h1
   ·rcases h2 with h2|⟨rfl,h2⟩
    ·exact .inl h2
    ·exact .inr ⟨rfl,a2h l r s h1 h2⟩
def t5:STO Op.bytesLess:=⟨a1y,a2h,a3m⟩
def d1l:∀x y:List UInt8,Op.bytesLess x y=decide (x<y)
 | x,[]=>by simp[Op.bytesLess]
 | [],y::r=>by simp[Op.bytesLess]
 | a::l,b::r=>by
   simp only[Op.bytesLess,d1l l r];rw[Bool.eq_iff_iff];simp[List.cons_lt_cons_iff]
end Go.Aw
