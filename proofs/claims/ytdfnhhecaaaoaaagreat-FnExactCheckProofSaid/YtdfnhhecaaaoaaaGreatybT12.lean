/- Levels of views: what they are. No condition. -/
import Derived.Test.YtdfnhhecaaaoaaaGreatybT2
import Derived.Test.YtdfnhhecaaaoaaaGreatybT3
namespace Go.Aw
open Go.Proofs
attribute [local irreducible] aft blk lpK retK AW Z9
set_option linter.all false
set_option maxRecDepth 100000
theorem a5o (q:Nat→Bool):∀ n,(∀ j,j < n→q j=false)∨∃ i,i < n∧(∀ j,j < i→q j=false)∧q i=true
 | 0=>.inl fun j hj=>by omega
 | n+1=>by
   rcases a5o q n with h | ⟨i,hi,h1,h2⟩
   ·cases hq:q n with
    | true=>exact .inr ⟨n,by omega,h,hq⟩
    | false=>exact .inl (a3w h hq)
   ·exact .inr ⟨i,by omega,h1,h2⟩
theorem a8p {p:c4} (h:(i4 p).1=0):m9 p=true∧(∀ j,j < p.Decls.length→l8 p j=false)∧∀ j,j < p.Rules.length→q0 p j=false:=by
 cases hB:m9 p with
 | false=>rw [a1f hB] at h;simp at h
 | true=>
   rcases a5o (l8 p) p.Decls.length with hd | ⟨i,hi,h1,h2⟩
   ·rcases a5o (q0 p) p.Rules.length with hr | ⟨i,hi,h1,h2⟩
    ·exact ⟨rfl,hd,hr⟩
    ·rw [a1q hB hd hi h1 h2] at h
     simp only at h
     rw [q0,h] at h2
     simp at h2
   ·rw [a0o hB hi h1 h2] at h;simp at h
theorem a6N {p:c4} (hd:∀ j,j < p.Decls.length→l8 p j=false) {i j:Nat} (hi:i < p.Decls.length) (hj:j < i):(p.Decls.getD j default).Name≠(p.Decls.getD i default).Name:=by
 have h:=hd i hi
 simp only [l8,Bool.or_eq_false_iff,List.any_eq_false] at h
 intro e
 refine h.2 (p.Decls.getD j default) ?_ (by simpa using e)
 rw [i6 default (by omega)]
 exact List.mem_take_iff_getElem.2 ⟨j,by omega,rfl⟩
def vwN (p:c4):List (List UInt8):=(p.Decls.filter fun d=>d.Kind==3).map d7.Name
def vwS (p:c4):List (List UInt8):=l4 sLt [] (vwN p)
theorem vwS_SS (p:c4):SS sLt (vwS p):=SS.puts l6 SS.nil
theorem a9P (p:c4):(vwS p).Nodup:=(vwS_SS p).nodup l6
theorem mem_vwS {p:c4} {v:List UInt8}:v∈vwS p↔∃ d∈p.Decls,d.Kind=3∧d.Name=v:=by
 rw [vwS,t7,vwN]
 simp only [List.not_mem_nil,false_or,List.mem_map,List.mem_filter,beq_iff_eq,and_assoc]
theorem a1a {p:c4} (hd:∀ j,j < p.Decls.length→l8 p j=false) {v:List UInt8}:p9 p v=3↔v∈vwS p:=by
 rw [mem_vwS]
 constructor
 ·intro h
  have hs:a0b p v=true:=by
   cases hs:a0b p v with
   | true=>rfl
   | false=>rw [p9,(a5l hs).1] at h;exact absurd h (by decide)
  obtain ⟨x,hx,hp,e⟩:=b9F hs
  rw [p9,v7,e] at h
  exact ⟨x,hx,h,by simpa using hp⟩
 ·rintro ⟨d,hm,hk,rfl⟩
  obtain ⟨i,hi,rfl⟩:=List.getElem_of_mem hm
  have e:p.Decls.getD i default=p.Decls[i]:=i6 default hi
  have ha:((p.Decls.take i).any fun d=>d.Name==(p.Decls[i]).Name)=false:=by
   rw [List.any_eq_false]
   intro x hx
   obtain ⟨j,hj,rfl⟩:=List.mem_take_iff_getElem.1 hx
   have h1:=a6N hd hi (j:=j) (by omega)
   rw [e,i6 default (by omega)] at h1
   simpa using h1
  rw [p9,(a9l hi ha (by rw [e];simp)).1,e]
  exact hk
theorem b3v {p:c4} (hr:∀ j,j < p.Rules.length→q0 p j=false) {i:Nat} (hi:i < p.Rules.length) (hk:p9 p (p.Rules.getD i default).Head.Name=3):(p.Rules.getD i default).Kind=1:=by
 have h:o6 p (p.Rules.getD i default)=0:=by
  have h:=hr i hi
  rw [q0,Bool.not_eq_false',beq_iff_eq] at h
  exact h
 generalize p.Rules.getD i default=r at h hk ⊢
 refine Classical.byContradiction fun hne=>?_
 have hb:a2h p r=true:=by rw [a2h,show (r.Kind==1)=false from beq_eq_false_iff_ne.2 hne,cond_false,hk];rfl
 unfold o6 at h
 rw [hb] at h
 cases h1:(m8 r).any (a2I p)<;>rw [h1] at h<;>cases h2:(m8 r).any (a2J p)<;>rw [h2] at h<;>simp at h
abbrev Lev:=List UInt8→Int
def lvl (p:c4) (g:Lev):List e7:=(vwS p).map fun v=>⟨v,g v⟩
def upd (g:Lev) (v:List UInt8) (n:Int):Lev:=fun x=>if x=v then n else g x
def a5e (l:d5):Int:=if l.Kind=2 then 1 else 0
def a1m (p:c4) (g:Lev) (h:List UInt8) (l:d5):Prop:=l.Kind≠3→l.Atom.Name∈vwS p→g l.Atom.Name+a5e l≤g h
def u6 (p:c4) (g:Lev) (r:c6):Prop:=r.Head.Name∈vwS p→∀ l∈r.Body,a1m p g r.Head.Name l
def Fx (p:c4) (g:Lev):Prop:=∀ r∈p.Rules,u6 p g r
structure Low (p:c4) (g:Lev):Prop where
 ge:∀ v,0≤g v
 mn:∀ F,Fx p F→(∀ v,0≤F v)→∀ v∈vwS p,g v≤F v
structure Least (p:c4) (g:Lev):Prop where
 fx:Fx p g
 low:Low p g
 le:∀ v∈vwS p,g v≤(vwS p).length
open Classical in
noncomputable def y4 (p:c4):List e7×Bool:=bif (i4 p).1==0 then (if h:∃ g,Least p g then (lvl p h.choose,true) else ([],false)) else ([],false)
theorem c5H {p:c4} {g g':Lev} (h:∀ v∈vwS p,g v=g' v):lvl p g=lvl p g':=List.map_congr_left fun v hv=>by rw [h v hv]
theorem b4B {p:c4} (h:((i4 p).1==0)=true) {g:Lev} (hg:Least p g):y4 p=(lvl p g,true):=by
 have hx:∃ g,Least p g:=⟨g,hg⟩
 rw [y4,h,cond_true,dif_pos hx]
 have h2:=hx.choose_spec
 refine congrArg (·,true) (c5H fun v hv=>Int.le_antisymm ?_ ?_)
 ·exact h2.low.mn g hg.fx hg.low.ge v hv
 ·exact hg.low.mn _ h2.fx h2.low.ge v hv
theorem b6Y {p:c4} {g:Lev} (hg:Low p g) {v:List UInt8} (hv:v∈vwS p) (hn:((vwS p).length:Int) < g v):y4 p=([],false):=by
 rw [y4]
 cases (i4 p).1==0 with
 | false=>rfl
 | true=>
   rw [cond_true,dif_neg]
   rintro ⟨F,hF⟩
   have h1:=hg.mn F hF.fx hF.low.ge v hv
   have h2:=hF.le v hv
   omega
theorem Low.zero (p:c4):Low p fun _=>0:=⟨fun _=>Int.le_refl _,fun F _ h v _=>h v⟩
theorem Low.up {p:c4} {g:Lev} (h:Low p g) {r:c6} (hr:r∈p.Rules) (hh:r.Head.Name∈vwS p) {l:d5} (hl:l∈r.Body) (hk:l.Kind≠3) (hb:l.Atom.Name∈vwS p):Low p (upd g r.Head.Name (g l.Atom.Name+a5e l)):=by
 have hn:0≤a5e l:=by unfold a5e;split<;>omega
 refine ⟨fun v=>?_,fun F hF hF0 v hv=>?_⟩
 ·unfold upd
  split
  ·have:=h.ge l.Atom.Name;omega
  ·exact h.ge v
 ·unfold upd
  split
  ·rename_i e
   subst e
   have h1:=hF r hr hh l hl hk hb
   have h2:=h.mn F hF hF0 _ hb
   omega
  ·exact h.mn F hF hF0 v hv
def a1n (p:c4) (g:Lev):Nat:=n0 (fun v=>((vwS p).length+400 - g v).toNat) (vwS p)
theorem c3R {α:Type} [DecidableEq α] {f f':α→Nat} {x:α}:∀ {l:List α},l.Nodup→x∈l→(∀ y,y≠x→f' y=f y)→f' x < f x→n0 f' l < n0 f l
 | [],_,hx,_,_=>by simp at hx
 | y::l,hn,hx,h1,h2=>by
   rw [List.nodup_cons] at hn
   simp only [n0]
   by_cases e:y=x
   ·subst e
    have:∀ {m:List α},¬ y∈m→n0 f' m=n0 f m:=by
     intro m
     induction m with
     | nil=>intro _;rfl
     | cons z m ih=>
       intro hm
       simp only [List.mem_cons,not_or] at hm
       simp only [n0,h1 z (fun e=>hm.1 e.symm),ih hm.2]
    rw [this hn.1];omega
   ·have hx':x∈l:=by
     rcases List.mem_cons.1 hx with h | h
     ·exact absurd h.symm e
     ·exact h
    have:=c3R hn.2 hx' h1 h2
    rw [h1 y e];omega
theorem lsum_lt {p:c4} {g:Lev} {v:List UInt8} {n:Int} (hv:v∈vwS p) (h:g v < n) (hn:g v < (vwS p).length+400):a1n p (upd g v n) < a1n p g:=by
 refine c3R (a9P p) hv (fun y hy=>by simp [upd,hy]) ?_
 simp only [upd,if_true]
 omega
theorem a8n (p:c4) (g:Lev):(lvl p g).length=(vwS p).length:=by simp [lvl]
theorem c0j (p:c4) (g:Lev) {i:Nat} (h:i < (vwS p).length):(lvl p g).getD i default=⟨(vwS p).getD i [],g ((vwS p).getD i [])⟩:=by
 rw [i6 _ (by rw [a8n];exact h),i6 _ h]
 simp [lvl]
theorem c3L (p:c4) (g:Lev) {i:Nat} (h:i < (vwS p).length) (n:Int):(lvl p g).set i ⟨(vwS p).getD i [],n⟩=lvl p (upd g ((vwS p).getD i []) n):=by
 have e0:(vwS p).getD i []=(vwS p)[i]:=i6 [] h
 rw [e0]
 apply List.ext_getElem
 ·simp [lvl]
 ·intro j h1 h2
  have hj:j < (vwS p).length:=by simpa [lvl] using h2
  rw [List.getElem_set]
  split
  ·rename_i e
   subst e
   simp [lvl,upd]
  ·rename_i e
   have hne:(vwS p)[j]≠(vwS p)[i]:=fun h3=>e ((List.getElem_inj (a9P p)).1 h3).symm
   simp [lvl,upd,hne]
end Go.Aw
