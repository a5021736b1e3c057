/- What fits is filled back: the mathematics. No condition. -/
import Derived.Test.YtdfnhhecaaaoaaaGreatybT25
namespace Go.Aw
open Go.Proofs
set_option linter.all false
set_option maxRecDepth 100000
theorem a0Z (l:List d4) (v:List UInt8):o7 ⟨l⟩ v=match l.find? (fun b=>b.Var==v) with | some b=>(b.Val,true) | none=>(default,false):=by
 cases h:l.find? (fun b=>b.Var==v) with
 | none=>
   refine a5b fun j hj=>?_
   have:=List.find?_eq_none.1 h (l.getD j default) (by rw [i6 default hj];exact List.getElem_mem hj)
   simpa using this
 | some b=>
   obtain ⟨hp,l1,l2,rfl,hno⟩:=List.find?_eq_some_iff_append.1 h
   have e:(l1++b::l2).getD l1.length default=b:=by simp
   rw [a5c (e:=⟨l1++b::l2⟩) (i:=l1.length) (by simp) (fun j hj=>?_) (by simp only [e];exact hp)]
   ·simp only [e]
   ·have hm:(l1++b::l2).getD j default=l1[j]:=by
     rw [List.getD_eq_getElem?_getD,List.getElem?_append_left hj,List.getElem?_eq_getElem hj];rfl
    simp only [hm]
    have:=hno l1[j] (List.getElem_mem hj)
    simpa using this
theorem b3o {l:List d4} {v:List UInt8} (h:(o7 ⟨l⟩ v).2=false):l.find? (fun b=>b.Var==v)=none:=by
 rw [a0Z] at h
 cases hf:l.find? (fun b=>b.Var==v) with
 | none=>rfl
 | some b=>rw [hf] at h;cases h
theorem b1S {l:List d4} {v:List UInt8} (h:(o7 ⟨l⟩ v).2=false):¬ v∈l.map d4.Var:=by
 intro hm
 obtain ⟨b,hb,rfl⟩:=List.mem_map.1 hm
 have:=List.find?_eq_none.1 (b3o h) b hb
 simp at this
theorem off_of {l:List d4} {v:List UInt8} (h:¬ v∈l.map d4.Var):(o7 ⟨l⟩ v).2=false:=by
 rw [a0Z,List.find?_eq_none.2 (fun b hb hv=>h (List.mem_map.2 ⟨b,hb,by simpa using hv⟩))]
theorem on_mem {l:List d4} {v:List UInt8}:(o7 ⟨l⟩ v).2=true↔v∈l.map d4.Var:=by
 constructor
 ·intro h
  refine Classical.byContradiction fun hn=>?_
  rw [off_of hn] at h;cases h
 ·intro h
  cases hv:(o7 ⟨l⟩ v).2 with
  | true=>rfl
  | false=>exact absurd h (b1S hv)
theorem b4M (l:List d4) (v:List UInt8):l.takeWhile (fun b=>!gtB v b)++l.dropWhile (fun b=>!gtB v b)=l:=List.takeWhile_append_dropWhile
theorem c5u {l:List d4} {v w:List UInt8} {x:c7} (hw:w≠v):o7 ⟨a3z l v x⟩ w=o7 ⟨l⟩ w:=by
 rw [a0Z,a0Z]
 conv=>rhs;rw [← b4M l v]
 rw [a3z,List.find?_append,List.find?_append,List.find?_cons,show ((v==w)=false) from beq_eq_false_iff_ne.2 (Ne.symm hw)]
theorem b9D {l:List d4} {v:List UInt8} {x:c7} (h:(o7 ⟨l⟩ v).2=false):o7 ⟨a3z l v x⟩ v=(x,true):=by
 have h1:=b3o h
 rw [← b4M l v,List.find?_append] at h1
 rw [a0Z,a3z,List.find?_append]
 cases h2:(l.takeWhile fun b=>!gtB v b).find? (fun b=>b.Var==v) with
 | some b=>rw [h2] at h1;cases h1
 | none=>simp
theorem c8f {a b:c7} (h:c0w a b=true):a=b:=by
 obtain ⟨n,s⟩:=a
 obtain ⟨m,t⟩:=b
 simp only [c0w,Bool.and_eq_true,beq_iff_eq] at h
 obtain ⟨rfl,rfl⟩:=h
 rfl
def Back (c:List d4) (t:c8) (x:c7):Prop:=j4 ⟨c⟩ t=(x,true)
theorem Back.set {c:List d4} {t:c8} {x y:c7} {v:List UInt8} (h:Back c t x) (hv:(o7 ⟨c⟩ v).2=false):Back (a3z c v y) t x:=by
 unfold Back at *
 rw [j4] at h ⊢
 cases ht:t.Var==[] with
 | true=>rw [ht] at h;exact h
 | false=>
   rw [ht,cond_false] at h
   have hn:t.Var≠v:=by intro e;rw [← e,h] at hv;cases hv
   rw [cond_false,c5u hn];exact h
theorem a0f {c:List d4} {t:c8} (h:(j4 ⟨c⟩ t).2=false):(t.Var==[])=false∧(o7 ⟨c⟩ t.Var).2=false:=by
 rw [j4] at h
 cases ht:t.Var==[] with
 | true=>rw [ht] at h;cases h
 | false=>rw [ht] at h;exact ⟨rfl,h⟩
theorem a6I {b c:List d4} {t:c8} {v:c7} (h:fitS b t v=some c):(c=b∧Back b t v)∨(c=a3z b t.Var v∧(t.Var==[])=false∧(o7 ⟨b⟩ t.Var).2=false):=by
 rw [fitS] at h
 cases hv:(j4 ⟨b⟩ t).2 with
 | true=>
   rw [hv,cond_true] at h
   cases hs:c0w (j4 ⟨b⟩ t).1 v with
   | true=>
     rw [hs,cond_true,Option.some.injEq] at h
     refine .inl ⟨h.symm, ?_⟩
     unfold Back
     rw [← c8f hs,← hv]
   | false=>rw [hs] at h;cases h
 | false=>
   rw [hv,cond_false,Option.some.injEq] at h
   exact .inr ⟨h.symm,a0f hv⟩
theorem c5w {b c:List d4} {t:c8} {v:c7} (h:fitS b t v=some c):Back c t v∧∀ s x,Back b s x→Back c s x:=by
 rcases a6I h with ⟨rfl,h1⟩ | ⟨rfl,h1,h2⟩
 ·exact ⟨h1,fun _ _ h=>h⟩
 ·refine ⟨?_,fun s x h=>h.set h2⟩
  unfold Back
  rw [j4,h1,cond_false,b9D h2]
theorem a9p {b:List d4} {args:List c8} {vs:List c7}:∀ {n:Nat} {c:List d4},a6H b args vs n=some c→(∀ i,i < n→Back c (args.getD i default) (vs.getD i default))∧∀ s x,Back b s x→Back c s x
 | 0,c,h=>by
   simp only [a6H,Option.some.injEq] at h
   subst h
   exact ⟨fun i hi=>by omega,fun _ _ h=>h⟩
 | n+1,c,h=>by
   rw [a6H] at h
   obtain ⟨d,h1,h2⟩:=Option.bind_eq_some_iff.1 h
   obtain ⟨i1,i2⟩:=a9p h1
   obtain ⟨j1,j2⟩:=c5w h2
   refine ⟨fun i hi=>?_,fun s x h=>j2 s x (i2 s x h)⟩
   rcases Nat.lt_or_ge i n with h3 | h3
   ·exact j2 _ _ (i1 i h3)
   ·obtain rfl:i=n:=by omega
    exact j1
def EnvS (l:List d4):Prop:=(∀ b∈l,a3g b.Var=true∧i8 b.Val=true)∧SS Op.bytesLess (l.map d4.Var)
theorem c7c {n:Nat} {p:Nat→Bool}:a0T n p=false↔∀ i,i < n→p i=false:=by
 constructor
 ·intro h i hi
  cases hp:p i with
  | false=>rfl
  | true=>rw [z8 hi hp] at h;cases h
 ·intro h
  induction n with
  | zero=>rfl
  | succ n ih=>exact v9 (ih fun i hi=>h i (by omega)) (h n (by omega))
theorem c1n {l:List (List UInt8)} (h:∀ i,0 < i→i < l.length→Op.bytesLess (l.getD (i - 1) []) (l.getD i [])=true):SS Op.bytesLess l:=by
 refine List.pairwise_iff_getElem.2 fun i j hi hj hij=>?_
 have key:∀ d,i+d+1 < l.length→Op.bytesLess (l.getD i []) (l.getD (i+d+1) [])=true:=by
  intro d
  induction d with
  | zero=>intro hd;exact h (i+1) (by omega) hd
  | succ d ih=>intro hd;exact a0L _ _ _ (ih (by omega)) (h (i+(d+1)+1) (by omega) hd)
 have:=key (j - i - 1) (by omega)
 rw [show i+(j - i - 1)+1=j by omega,i6 [] hi,i6 [] hj] at this
 exact this
theorem a7R (l:List d4) (i:Nat):(l.map d4.Var).getD i []=(l.getD i default).Var:=by
 rw [List.getD_eq_getElem?_getD,List.getD_eq_getElem?_getD,List.getElem?_map]
 cases l[i]? with
 | none=>rfl
 | some b=>rfl
theorem b6V {e:e8}:a2X e=true↔EnvS e.Binds∧e.Binds.length≤60:=by
 rw [a2X,Bool.and_eq_true,Bool.not_eq_true',c7c,decide_eq_true_eq]
 have hl:((e.Binds.length:Int)≤60)↔e.Binds.length≤60:=by omega
 rw [hl]
 refine and_congr_left fun _=>⟨fun h=>⟨fun b hb=>?_,c1n fun i h0 hi=>?_⟩,fun h i hi=>?_⟩
 ·obtain ⟨i,hi,rfl⟩:=List.getElem_of_mem hb
  have:=h i hi
  rw [w9,i6 default hi] at this
  simp only [Bool.or_eq_false_iff,Bool.not_eq_false'] at this
  exact this.1
 ·rw [List.length_map] at hi
  rw [a7R,a7R]
  have:=h i hi
  rw [w9,decide_eq_true (p:=(0:Int) < i) (by omega)] at this
  simp only [Bool.or_eq_false_iff,Bool.not_eq_false',Bool.true_and] at this
  exact this.2
 ·have h1:=h.1 (e.Binds.getD i default) (by rw [i6 default hi];exact List.getElem_mem hi)
  rw [w9,h1.1,h1.2]
  rcases Nat.eq_zero_or_pos i with h0 | h0
  ·subst h0;simp
  ·have h2:=List.pairwise_iff_getElem.1 h.2 (i - 1) i (by rw [List.length_map];omega) (by rw [List.length_map];omega) (by omega)
   rw [← i6 [] (by rw [List.length_map];omega),← i6 [] (by rw [List.length_map];omega),a7R,a7R] at h2
   rw [h2];simp
theorem a5t {l:List d4} {v:List UInt8} (x:c7) (h:¬ v∈l.map d4.Var):(a3z l v x).map d4.Var=a0r Op.bytesLess (l.map d4.Var) v:=by
 rw [a0r,if_neg h,List.takeWhile_map,List.dropWhile_map,a3z,List.map_append,List.map_cons];rfl
theorem c7W {l:List d4} {v:List UInt8} {x:c7} {b:d4}:b∈a3z l v x↔b=⟨v,x⟩∨b∈l:=by
 conv=>rhs;rw [← b4M l v]
 rw [a3z,List.mem_append,List.mem_cons,List.mem_append]
 constructor
 ·rintro (h | h | h)
  ·exact .inr (.inl h)
  ·exact .inl h
  ·exact .inr (.inr h)
 ·rintro (h | h | h)
  ·exact .inr (.inl h)
  ·exact .inl h
  ·exact .inr (.inr h)
theorem EnvS.set {l:List d4} {v:List UInt8} {x:c7} (h:EnvS l) (hv:a3g v=true) (hx:i8 x=true) (hn:(o7 ⟨l⟩ v).2=false):EnvS (a3z l v x):=by
 refine ⟨fun b hb=>?_,by rw [a5t x (b1S hn)];exact SS.put l6 h.2 v⟩
 rcases c7W.1 hb with rfl | hb
 ·exact ⟨hv,hx⟩
 ·exact h.1 b hb
theorem b4P {t:c8} (h:o5 t=true) (hv:(t.Var==[])=false):a3g t.Var=true:=by
 rw [o5,hv] at h
 simp only [Bool.not_false,cond_true,Bool.and_eq_true] at h
 exact h.1
theorem EnvS.fit {b c:List d4} {t:c8} {v:c7} (h:EnvS b) (ht:o5 t=true) (hv:i8 v=true) (hf:fitS b t v=some c):EnvS c:=by
 rcases a6I hf with ⟨rfl,_⟩ | ⟨rfl,h1,h2⟩
 ·exact h
 ·exact h.set (b4P ht h1) hv h2
theorem EnvS.fits {b:List d4} {args:List c8} {vs:List c7} (h:EnvS b) (ha:args.all o5=true) (hv:vs.all i8=true):∀ {n:Nat} {c:List d4},n≤args.length→n≤vs.length→a6H b args vs n=some c→EnvS c
 | 0,c,_,_,hf=>by
   simp only [a6H,Option.some.injEq] at hf
   subst hf
   exact h
 | n+1,c,hn,hm,hf=>by
   rw [a6H] at hf
   obtain ⟨d,h1,h2⟩:=Option.bind_eq_some_iff.1 hf
   refine (EnvS.fits h ha hv (by omega) (by omega) h1).fit (List.all_eq_true.1 ha _ ?_) (List.all_eq_true.1 hv _ ?_) h2
   ·rw [i6 default (by omega)];exact List.getElem_mem _
   ·rw [i6 default (by omega)];exact List.getElem_mem _
theorem fitR_on {e:e8} {args:List c8} {row:d6} (h:(b7M e args row).2=true):args.length=row.V.length∧a6H e.Binds args row.V args.length=some (b7M e args row).1.Binds:=by
 rw [b7M] at h ⊢
 by_cases hl:args.length=row.V.length
 ·rw [decide_eq_true hl,cond_true] at h ⊢
  split at h
  ·rename_i c hc;exact ⟨hl,hc⟩
  ·cases h
 ·rw [decide_eq_false hl] at h;cases h
theorem a9n {c:List d4} {args:List c8} {row:d6} (hl:args.length=row.V.length) (h:∀ i,i < args.length→Back c (args.getD i default) (row.V.getD i default)):k9 ⟨c⟩ args=(row,true):=by
 have h1:args.all (fun t=>(j4 ⟨c⟩ t).2)=true:=by
  rw [List.all_eq_true]
  intro t ht
  obtain ⟨i,hi,rfl⟩:=List.getElem_of_mem ht
  have:=h i hi
  unfold Back at this
  rw [i6 default hi] at this
  rw [this]
 have h2:args.map (fun t=>(j4 ⟨c⟩ t).1)=row.V:=by
  refine List.ext_getElem (by rw [List.length_map];exact hl) fun i hi hj=>?_
  rw [List.length_map] at hi
  have:=h i hi
  unfold Back at this
  rw [i6 default hi,i6 default hj] at this
  rw [List.getElem_map,this]
 rw [k9,h1,cond_true,h2]
theorem c2x (a:c7):o9 a a=false:=by
 rw [o9,a1A,decide_eq_false (by omega)]
 cases a.S==[]&&a.S==[]<;>rfl
theorem b7e:∀ a:List c7,a0h a a=0
 | []=>rfl
 | x::a=>by rw [a0h,c2x];exact b7e a
end Go.Aw
