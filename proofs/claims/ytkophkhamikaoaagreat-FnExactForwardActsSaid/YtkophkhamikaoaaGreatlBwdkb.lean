/- From the arguments of a statement to what the small code reads, and back. No condition. -/
import Derived.DataReads
import Derived.ChangeArms
import Derived.ChangeSame
import Derived.RowKit
import Derived.JoinedOf
import Derived.OpenShut
import Derived.ChangeOld
import Derived.Test.YtkophkhamikaoaaGreatlBwtkb
namespace Go.Aw
set_option linter.all false
inductive Sh where
 | b
 | i (k:IntKind)
 | s
 | sl (l:List Sh)
mutual
def Sh.z:Sh->C
 | .b=>.b false
 | .i k=>.i k 0
 | .s=>.s []
 | .sl l=>.sl false (shZ l) []
def shZ:List Sh->List C
 | []=>[]
 | x::l=>x.z::shZ l
end
mutual
def Sh.Has:Sh->C->Prop
 | .b,c=>∃x,c=.b x
 | .i k,c=>∃n,c=.i k n
 | .s,c=>∃x,c=.s x
 | .sl l,c=>∃rows,c=.sl false (shZ l) rows/\∀r∈rows,ShHas l r
def ShHas:List Sh->List C->Prop
 | [],cs=>cs=[]
 | x::l,cs=>∃c cs',cs=c::cs'/\x.Has c/\ShHas l cs'
end
def c3e:∀l:List Sh,(shZ l).length=l.length
 | []=>rfl
 | x::l=>by simp[shZ,c3e l]
def ShHas.length:∀{l:List Sh} {cs:List C},ShHas l cs->cs.length=l.length
 | [],cs,h=>by unfold ShHas at h;subst h;rfl
 | x::l,cs,h=>by
   unfold ShHas at h;obtain⟨c,cs',rfl,_,h⟩:=h;simp[ShHas.length h]
def ShHas.append:∀{l l':List Sh} {cs cs':List C},ShHas l cs->ShHas l' cs'->ShHas (l++l') (cs++cs')
 | [],l',cs,cs',h,h'=>by unfold ShHas at h;subst h;exact h'
 | x::l,l',cs,cs',h,h'=>by
   unfold ShHas at h;obtain⟨c,r,rfl,h1,h2⟩:=h;simp only[q1K];unfold ShHas;exact⟨c,r++cs',rfl,h1,h2.append h'⟩
def b0t{F:Nat->Prop}{w:World}:∀{l l':List C} {vs vs':List Value},C.RdVals F w l vs []->C.RdVals F w l' vs' []->C.RdVals F w (l++l') (vs++vs') []
 | [],l',vs,vs',h,h'=>by unfold C.RdVals at h;obtain⟨rfl,_⟩:=h;exact h'
 | c::l,l',vs,vs',h,h'=>by
   unfold C.RdVals at h;obtain⟨v,r,f1,f2,rfl,e,h1,h2⟩:=h;have e:=q1P.1 e.symm;obtain⟨rfl,rfl⟩:=e;simp only[q1K];unfold C.RdVals;exact⟨v,r++vs',[],[],rfl,rfl,h1,b0t h2 h'⟩
variable{a:Addr}{n:Nat}{v:Value}
def rd1{F:Nat->Prop}{w:World}{c:C}(h:C.Rd F w c v []):C.RdVals F w [c] [v] []:=by
 unfold C.RdVals;exact⟨v,[],[],[],rfl,rfl,h,z0W⟩
def shFs(P:Program)(f:TypeId->Option (List Sh)):Nat->List Field->Option (List Sh)
 | _,[]=>some []
 | o,x::xs=>match f x.type with
   | some l=>if x.offset=o/\P.cellsOf x.type=l.length then
      match shFs P f (o+l.length) xs with
      | some r=>some (l++r)
      | none=>none
     else none
   | none=>none
def c3d(P:Program):Nat->TypeId->Option (List Sh)
 | 0,_=>none
 | n+1,t=>match P.underlying t with
   | some .bool=>some [.b]
   | some (.int k)=>some [.i k]
   | some .string=>some [.s]
   | some (.slice e)=>match c3d P n e with
     | some l=>if P.cellsOf e=l.length/\0<l.length then some [.sl l]else none
     | none=>none
   | some (.struct fs)=>match shFs P (c3d P n) 0 fs.toList with
     | some l=>if P.cellsOf t=l.length then some l else none
     | none=>none
   | _=>none
section
variable{H:Type}{enc:TypeId×Value->H}{P:Program}{w:World}{sp:Nat->Bool}{held:Bool}
def c9L{n i:Nat}(h:w.cell? (a.add i)=some v):a.block<w.heap.size:=by
 unfold World.cell? at h;have:(a.add i).block=a.block:=by unfold Addr.add;split<;>rfl
 rw[this]at h;by_cases hb:a.block<w.heap.size
 ·exact hb
 ·rw[q2N z0D]at h;simp at h
def d3N(h:w.cell? a=some v):a.spot=none:=by
 unfold World.cell? at h;split at h
 ·split at h
  ·exact absurd h (by simp)
  ·rename_i hs;simpa using hs
 ·exact absurd h z0E
def c5u(a:Addr)(i:Nat):(a.add i).block=a.block:=by unfold Addr.add;split<;>rfl
def c5v(h:a.spot=none)(i:Nat):a.add i=⟨a.block,a.off+i,none⟩:=by
 unfold Addr.add;split
 ·rename_i e;subst e;cases a;simp_all
 ·rfl
def rows_rd{l:List Sh}(hl:0<l.length)(ha:a.spot=none){len:Nat}
  (h:∀i,i<len->∃cs cl,w.cells? 0 (a.add (i*l.length)) l.length=some cs/\ShHas l cl/\C.RdVals (· < w.heap.size) w cl cs []):
  ∃rows vs,rows.length=len/\(∀r∈rows,ShHas l r)/\CellsAt w a.block a.off vs/\vs.length=len*l.length/\C.RdRows (· < w.heap.size) w rows vs []:=by
 induction len with
 | zero=>exact⟨[],[],rfl,(fun r hr=>by cases hr),(fun j hj=>z2H),z0E,z1N⟩
 | succ n ih=>
   obtain⟨rows,vs,h1,h2,h3,h4,h5⟩:=ih (fun i hi=>h i z0D);obtain⟨cs,cl,g1,g2,g3⟩:=h n z0D;obtain⟨_,g4,g5⟩:=World.cells?_some g1;have app:∀{rows:List (List C)} {vs:List Value},C.RdRows (· < w.heap.size) w rows vs []->C.RdRows (· < w.heap.size) w (rows++[cl]) (vs++cs) []:=by
    intro rows
    induction rows with
    | nil=>
      intro vs hr;unfold C.RdRows at hr;obtain⟨rfl,_⟩:=hr;simp only[q1J];unfold C.RdRows;exact⟨cs,[],[],[],z0E,rfl,g3,z1N⟩
    | cons r rows ih2=>
      intro vs hr;unfold C.RdRows at hr;obtain⟨v1,v2,f1,f2,rfl,e,k1,k2⟩:=hr;obtain⟨rfl,rfl⟩:=q1P.1 e.symm;simp only[q1K];unfold C.RdRows;exact⟨v1,v2++cs,[],[],z0E,rfl,k1,ih2 k2⟩
   refine⟨rows++[cl],vs++cs,by simp[h1], ?_, ?_,by simp[h4,g4,q4W],app h5⟩
   ·intro r hr;rcases V0.1 hr with hr|hr
    ·exact h2 r hr
    ·rw[q0E.1 hr];exact g2
   ·intro j hj;by_cases hjv:j<vs.length
    ·rw[q4N hjv];exact h3 j hjv
    ·rw[List.getElem_append_right z0D];have hj2:j-vs.length<l.length:=by simp[g4]at hj;omega
     have:=g5 (j-vs.length) hj2;rw[c5v ha,show(⟨a.block,a.off+n*l.length,none⟩:Addr).add (j-vs.length)=⟨a.block,a.off+n*l.length+(j-vs.length),none⟩from c5v rfl _]at this;rw[show a.off+j=a.off+n*l.length+(j-vs.length) by omega,this,V7 z0D]
def wf_int{k:IntKind}{n:Int}(h:(Lit.int k n).wf=true):k.min<=n/\n<=k.max:=by
 simpa[Lit.wf,IntKind.has]using h
def trod_rd:∀(n:Nat) (t:TypeId) (l:List Sh) (m:Nat) (cs:List Value) (x:DataW H×List MemPlace),c3d P n t=some l->DataW.trod enc P w 0 sp held m t cs=some x->
  ∃cl,ShHas l cl/\C.RdVals (· < w.heap.size) w cl cs []:=by
 intro n
 induction n with
 | zero=>intro t l m cs x h;simp[c3d]at h
 | succ n ih=>
   intro t l m cs x h hx;unfold c3d at h;split at h
   ·rename_i hu;obtain rfl:=Option.some.inj h;obtain⟨b,rfl,_⟩:=DataW.trod_bool hu hx;refine⟨[.b b],z1Q, ?_⟩;exact rd1 (by simp[C.Rd])
   ·rename_i k hu;obtain rfl:=Option.some.inj h;obtain⟨b,rfl,_,hw⟩:=DataW.trod_int hu hx;refine⟨[.i k b],z1Q, ?_⟩;have:=wf_int hw;exact rd1 (by simp[C.Rd,this])
   ·rename_i hu;obtain rfl:=Option.some.inj h;obtain⟨s,rfl,_,hw⟩:=DataW.trod_string hu hx;refine⟨[.s s.data.toList],z1Q, ?_⟩;exact rd1 (by simp[C.Rd];exact hw)
   ·rename_i e hu;split at h
    ·rename_i l' hl';split at h
     ·rename_i hc;obtain rfl:=Option.some.inj h;rcases DataW.trod_slice hu hx with⟨rfl,_⟩|⟨a,len,cap,elems,rest,m',_,rfl,_,_,h1,h2,h3,h4,_⟩
      ·refine⟨[.sl false (shZ l') []],z1Q, ?_⟩;exact rd1 (by unfold C.Rd;exact⟨none,0,rfl,q0F _,by simp[maxLen],(fun r hr=>by cases hr),rfl,.inl rfl⟩)
      ·have key:∀i,i<len->∃cs cl,w.cells? 0 (a.add (i*l'.length)) l'.length=some cs/\ShHas l' cl/\C.RdVals (· < w.heap.size) w cl cs []:=by
        intro i hi;have:=h4 i hi;rw[V7 z0D,hc.1]at this;obtain⟨cs,g1,g2⟩:=q2W.1 this;obtain⟨cl,g3,g4⟩:=ih e l' m' cs _ hl' g2;exact⟨cs,cl,g1,g3,g4⟩
       by_cases h0:len=0
       ·subst h0;refine⟨[.sl false (shZ l') []],z1Q, ?_⟩;exact rd1 (by unfold C.Rd;exact⟨some a,cap,rfl,q2D _,h2,(fun r hr=>by cases hr),rfl,.inl rfl⟩)
       ·obtain⟨cs0,_,g1,_,_⟩:=key 0 z0D;obtain⟨_,g4,g5⟩:=World.cells?_some g1;have g6:=g5 0 hc.2;rw[V7 z0D]at g6;have hab:a.block<w.heap.size:=by
         have:=c9L (n:=0) g6
         rwa [c5u]at this
        have hsp:a.spot=none:=by
         have:=d3N g6;simpa[Addr.add]using this
        obtain⟨rows,vs,k1,k2,k3,k4,k5⟩:=rows_rd hc.2 hsp key;refine⟨[.sl false (shZ l') rows],by simpa[ShHas,Sh.Has]using k2, ?_⟩;have hlen:∀r∈rows,r.length=(shZ l').length:=fun r hr=>by rw[c3e,(k2 r hr).length]
        refine rd1 ?_;unfold C.Rd;refine⟨some a,cap,by rw[k1],z0D,h2,hlen, ?_⟩;exact⟨rfl,.inr ⟨a.block,a.off,vs,by rw[<-hsp],hab,k3,k5⟩⟩
     ·exact absurd h (by simp)
    ·exact absurd h (by simp)
   ·rename_i fs hu;split at h
    ·rename_i l' hl';split at h
     ·rename_i hc;obtain rfl:=Option.some.inj h;obtain⟨xs,m',_,_,hlen,hxl,hf⟩:=DataW.trod_struct hu hx;have main:∀(gs:List Field) (o:Nat) (l:List Sh),shFs P (c3d P n) o gs=some l->(∀f∈gs,∃y,DataW.trod enc P w 0 sp held m' f.type ((cs.drop f.offset).take (P.cellsOf f.type))=some y)->
        ∃cl,ShHas l cl/\C.RdVals (· < w.heap.size) w cl ((cs.drop o).take l.length) []:=by
       intro gs
       induction gs with
       | nil=>
         intro o l hs _;simp only[shFs,W0]at hs;subst hs;exact⟨[],by unfold ShHas;rfl,z19⟩
       | cons g gs ih2=>
         intro o l hs hall;unfold shFs at hs;split at hs
         ·rename_i l1 hl1;split at hs
          ·rename_i hoc;split at hs
           ·rename_i r hr;obtain rfl:=Option.some.inj hs;obtain⟨y,hy⟩:=hall g z0E;obtain⟨c1,q1,q2⟩:=ih g.type l1 m' _ y hl1 hy;obtain⟨c2,q3,q4⟩:=ih2 (o+l1.length) r hr (fun f hf=>hall f (by simp[hf]));refine⟨c1++c2,q1.append q3, ?_⟩;rw[hoc.1,hoc.2]at q2;have:=b0t q2 q4;rw[V6,List.take_add,q2S];exact this
           ·exact absurd hs (by simp)
          ·exact absurd hs (by simp)
         ·exact absurd hs (by simp)
      obtain⟨cl,q1,q2⟩:=main fs.toList 0 l' hl' (fun f hf'=>by
       obtain⟨i,hi⟩:=List.getElem?_of_mem hf';have hi':fs[i]? = some f:=by simpa using hi
       have:=hf i f hi';have hlt:i<fs.size:=by
        rcases q3I i fs.size with h|h
        ·exact h
        ·rw[q2N h]at hi';cases hi'
       rw[V7 z0D]at this;exact⟨_,this⟩)
      refine⟨cl,q1, ?_⟩;rw[q0O,q1A z0D]at q2;exact q2
     ·exact absurd h (by simp)
    ·exact absurd h (by simp)
   ·exact absurd h z0E
def a9V{α β:Type}{f:α->Option β}:∀{l:List α} {ys:List β},ys.length=l.length->(∀(i:Nat) (x:α),l[i]? = some x->f x=ys[i]?)->l.mapM f=some ys
 | [],ys,h,_=>by
   have:ys=[]:=q0L.1 h;subst this;simp
 | a::l,[],h,_=>by simp at h
 | a::l,y::ys,h,k=>by
   have h0:=k 0 a rfl;simp only[q2O]at h0;rw[List.mapM_cons,h0,a9V (ys:=ys) z05 (fun i x hx=>by simpa using k (i+1) x z2O)];simp
def d1o{P:Program}{g:TypeId->Option (List Sh)}:∀{gs:List Field} {o:Nat} {l:List Sh},shFs P g o gs=some l->∀f∈gs,∃l1,g f.type=some l1
 | [],o,l,h,f,hf=>by cases hf
 | x::gs,o,l,h,f,hf=>by
   unfold shFs at h;split at h
   ·rename_i l1 hl1;split at h
    ·split at h
     ·rename_i r hr;rcases q0B.1 hf with rfl|hf
      ·exact⟨l1,hl1⟩
      ·exact d1o hr f hf
     ·exact absurd h (by simp)
    ·exact absurd h (by simp)
   ·exact absurd h z0E
def d3O{w w':World}{cs:List Value}(hn:0<n)(hw:∀b,b<w.heap.size->w'.heap[b]? = w.heap[b]?)(h:w.cells? 0 a n=some cs):w'.cells? 0 a n=some cs:=by
 obtain⟨_,h1,h2⟩:=World.cells?_some h;have g:=h2 0 hn;rw[V7 z0D]at g;have hb:=c9L (n:=0) g;rw[<-h];unfold World.cells?
 congr 2
 funext i
 exact World.cell?_of_block (by rw[c5u];exact hw _ hb)
def d9s{w':World}{sp':Nat->Bool}(hw:∀b,b<w.heap.size->w'.heap[b]? = w.heap[b]?):∀(n:Nat) (t:TypeId) (l:List Sh) (m:Nat) (cs:List Value) (x:DataW H×List MemPlace),c3d P n t=some l->
  DataW.trod enc P w 0 (fun _=>true) held m t cs=some x->(∀p∈x.2,sp' p.block=true)->DataW.trod enc P w' 0 sp' held m t cs=some x:=by
 intro n
 induction n with
 | zero=>intro t l m cs x h;simp[c3d]at h
 | succ n ih=>
   intro t l m cs x h hx hp;unfold c3d at h;split at h
   ·rename_i hu;obtain⟨b,rfl,rfl⟩:=DataW.trod_bool hu hx;cases m with
    | zero=>simp[DataW.trod]at hx
    | succ m=>unfold DataW.trod;rw[hu]
   ·rename_i k hu;obtain⟨b,rfl,rfl,hwf⟩:=DataW.trod_int hu hx;cases m with
    | zero=>simp[DataW.trod]at hx
    | succ m=>unfold DataW.trod;rw[hu];simp[hwf]
   ·rename_i hu;obtain⟨s,rfl,rfl,hs⟩:=DataW.trod_string hu hx;cases m with
    | zero=>simp[DataW.trod]at hx
    | succ m=>unfold DataW.trod;rw[hu];simp[hs]
   ·rename_i e hu;split at h
    ·rename_i l' hl';split at h
     ·rename_i hc;rcases DataW.trod_slice hu hx with⟨rfl,rfl⟩|⟨a,len,cap,elems,rest,m',rfl,rfl,rfl,h0,h1,h2,h3,h4,h5,_⟩
      ·cases m with
       | zero=>simp[DataW.trod]at hx
       | succ m=>unfold DataW.trod;rw[hu];simp
      ·have one:∀(i:Nat) (y:DataW H×List MemPlace),y∈elems++rest->(w.cells? 0 (a.add (i*P.cellsOf e)) (P.cellsOf e)).bind (DataW.trod enc P w 0 (fun _=>true) held m' e)=some y->
         (w'.cells? 0 (a.add (i*P.cellsOf e)) (P.cellsOf e)).bind (DataW.trod enc P w' 0 sp' held m' e)=some y:=by
        intro i y hy hi;obtain⟨cs',g1,g2⟩:=q2W.1 hi;rw[d3O z0D hw g1];exact ih e l' m' cs' y hl' g2 (fun p hp'=>hp p (V0.2 (.inr (q2K.2 ⟨y,hy,hp'⟩))))
       have e1:(List.range len).mapM (fun i=>(w'.cells? 0 (a.add (i*P.cellsOf e)) (P.cellsOf e)).bind (DataW.trod enc P w' 0 sp' held m' e))=some elems:=by
        refine a9V (by simp[h3]) (fun i x hx=>?_);obtain⟨hi,rfl⟩:=q0U.1 hx;simp only[List.length_range]at hi;simp only[List.getElem_range];have g:=h4 i hi;rw[V7 z0D]at g ⊢;exact one i _ (V0.2 (.inl (q1M _))) g
       obtain⟨h6,h7⟩:=h5 rfl;have e2:(List.range (cap-len)).mapM (fun j=>(w'.cells? 0 (a.add ((len+j)*P.cellsOf e)) (P.cellsOf e)).bind (DataW.trod enc P w' 0 sp' held m' e))=some rest:=by
        refine a9V (by simp[h6]) (fun i x hx=>?_);obtain⟨hi,rfl⟩:=q0U.1 hx;simp only[List.length_range]at hi;simp only[List.getElem_range];have g:=h7 i hi;rw[V7 z0D]at g ⊢;exact one (len+i) _ (V0.2 (.inr (q1M _))) g
       have e3:(if sp' a.block=true then(List.range (cap-len)).mapM (fun j=>(w'.cells? 0 (a.add ((len+j)*P.cellsOf e)) (P.cellsOf e)).bind (DataW.trod enc P w' 0 sp' held m' e))else some [])=some rest:=by
        by_cases hz:cap=0
        ·have:rest=[]:=q0L.1 z0D;subst hz;rw[e2,this];simp
        ·have:sp' a.block=true:=by
          refine hp (.cell a.block (a.off+0)) (V0.2 (.inl ?_));unfold MemPlace.row;refine q0R.2 ⟨0,q4J.2 ?_,rfl⟩;exact Nat.mul_pos z0D (by omega)
         rw[if_pos this,e2]
       unfold DataW.trod;rw[hu];dsimp only;rw[if_pos ⟨h0,h1,h2⟩,e1];simp only[q4C];rw[e3];rfl
     ·exact absurd h (by simp)
    ·exact absurd h (by simp)
   ·rename_i fs hu;split at h
    ·rename_i l' hl';split at h
     ·rename_i hc;obtain⟨xs,m',rfl,rfl,hlen,hxl,hf⟩:=DataW.trod_struct hu hx;have e1:fs.toList.mapM (fun f=>DataW.trod enc P w' 0 sp' held m' f.type ((cs.drop f.offset).take (P.cellsOf f.type)))=some xs:=by
       refine a9V (by simp[hxl]) (fun i f hfi=>?_);have g:=hf i f (by simpa using hfi);obtain⟨hi,_⟩:=q0U.1 hfi;simp only[q1Z]at hi;rw[V7 z0D]at g ⊢;obtain⟨l1,hl1⟩:=d1o hl' f (List.mem_of_getElem? hfi);exact ih f.type l1 m' _ _ hl1 g (fun p hp'=>hp p (q2K.2 ⟨_,q1M z0D,hp'⟩))
      unfold DataW.trod;rw[hu];dsimp only;rw[if_pos hlen,e1];rfl
     ·exact absurd h (by simp)
    ·exact absurd h (by simp)
   ·exact absurd h z0E
end
open Go.ChangeShapes Go.WideShapes Go.RowKit
def b9w:List (Bool×List Sh)->List V->Prop
 | [],vs=>vs=[]
 | (a,l)::r,vs=>∃cs rest,vs=(a,cs)::rest/\ShHas l cs/\b9w r rest
def c5w(P:Program)(t:TypeId):Option Bool:=
 match P.underlying t with
 | some (.struct _)=>some true
 | some .bool=>some false
 | some (.int _)=>some false
 | some .string=>some false
 | some (.slice _)=>some false
 | _=>none
def a9H(P:Program)(n:Nat):List TypeId->Option (List (Bool×List Sh))
 | []=>some []
 | t::ts=>match c5w P t,c3d P n t,a9H P n ts with
   | some a,some l,some r=>if a||l.length==1 then some ((a,l)::r)else none
   | _,_,_=>none
section
variable{H:Type}{enc:TypeId×Value->H}{P:Program}{W:World}{base:Nat}
def agg_no{t:TypeId}(ha:c5w P t=some false)(hval:Value.okWide P W .any base t v)(cs:Array Value):v≠.agg cs:=by
 rintro rfl;unfold c5w at ha;split at ha
 ·exact absurd ha (by simp)
 ·rename_i hu;simp[Value.okWide,hu,Cell.okWide,Cell.ok]at hval
 ·rename_i hu;simp[Value.okWide,hu,Cell.okWide,Cell.ok]at hval
 ·rename_i hu;simp[Value.okWide,hu,Cell.okWide,Cell.ok]at hval
 ·rename_i hu;simp[Value.okWide,hu,Cell.okWide,Cell.ok]at hval
 ·exact absurd ha z0E
def agg_yes{t:TypeId}(ha:c5w P t=some true)(hval:Value.okWide P W .any base t v):∃cs,v=.agg cs:=by
 unfold c5w at ha;split at ha
 ·rename_i hu;simp only[Value.okWide,hu]at hval;obtain⟨cs,rfl,_⟩:=hval;exact⟨cs,rfl⟩
 all_goals exact absurd ha z0E
def arg_rd{t:TypeId}{a:Bool}{l:List Sh}{d:DataW H}{p:List MemPlace}{sp:Nat->Bool}{held:Bool}(ha:c5w P t=some a)(hl:c3d P n t=some l)(h1:(a||l.length==1)=true)(hval:Value.okWide P W .any base t v)
  (h:DataW.Trod enc P W 0 sp held t v d p):∃cs,ShHas l cs/\VRd (· < W.heap.size) W (a,cs) v []:=by
 obtain⟨m,hm⟩:=h;obtain⟨cl,g1,g2⟩:=trod_rd n t l m _ _ hl hm;refine⟨cl,g1, ?_⟩;cases a with
 | true=>
   obtain⟨cs,rfl⟩:=agg_yes ha hval;exact⟨cs.toList,z0E,g2⟩
 | false=>
   have hone:cl.length=1:=by rw[g1.length];simpa using h1
   match cl,hone with
   | [c],_=>
     unfold C.RdVals at g2;obtain⟨v',r,f1,f2,e1,e2,g3,g4⟩:=g2;obtain⟨rfl,rfl⟩:=q1P.1 e2.symm;refine⟨c,rfl, ?_⟩;have:v=v':=by
      have:=agg_no ha hval;cases v with
      | agg cs=>exact absurd rfl (this cs)
      | _=>simp[Value.cells]at e1;exact e1.1
     rw[this];exact g3
def d4D{n:Nat}:∀{ts:List TypeId} {ps:List (Bool×List Sh)} {vs:List Value} {ds:List (DataW H)} {p:List MemPlace},a9H P n ts=some ps->
  (∀(j:Nat) t v,ts[j]? = some t->vs[j]? = some v->Value.okWide P W .any base t v)->DataW.TrodAll enc P W 0 (fun _=>true) true ts vs ds p->
  (∃Vs,b9w ps Vs/\VsRd (· < W.heap.size) W Vs vs [])/\
  (∀(W':World) (sp':Nat->Bool),(∀b,b<W.heap.size->W'.heap[b]? = W.heap[b]?)->(∀q∈p,sp' q.block=true)->DataW.TrodAll enc P W' 0 sp' true ts vs ds p)
 | [],ps,vs,ds,p,hp,hv,h=>by
   simp only[a9H,W0]at hp;subst hp;obtain⟨rfl,rfl,rfl⟩:=trodAll_nil h;exact⟨⟨[],rfl,z0P⟩,fun _ _ _ _=>rfl⟩
 | t::ts,ps,vs,ds,p,hp,hv,h=>by
   obtain⟨v,vs1,d,ds1,a,b,rfl,rfl,rfl,h1,h2⟩:=trodAll_cons h;unfold a9H at hp;split at hp
   ·rename_i ag l r e1 e2 e3;split at hp
    ·rename_i hc;obtain rfl:=Option.some.inj hp;obtain⟨cs,g1,g2⟩:=arg_rd e1 e2 hc (hv 0 t v rfl rfl) h1;obtain⟨⟨Vs,g3,g4⟩,g5⟩:=d4D e3 (fun j t' v' ht hv'=>hv (j+1) t' v' (by simpa using ht) (by simpa using hv')) h2;refine⟨⟨(ag,cs)::Vs,⟨cs,Vs,rfl,g1,g3⟩, ?_⟩,fun W' sp' hw hs=>?_⟩
     ·unfold VsRd;exact⟨v,vs1,[],[],rfl,rfl,g2,g4⟩
     ·obtain⟨m,hm⟩:=h1;exact⟨a,b,⟨m,d9s hw n t l m _ _ e2 hm (fun q hq=>hs q (V0.2 (.inl hq)))⟩,g5 W' sp' hw (fun q hq=>hs q (V0.2 (.inr hq))),rfl⟩
    ·exact absurd hp (by simp)
   ·exact absurd hp z0E
def d8W{W W':World}{may:MemPlace->Prop}(ho:W'.os=W.os)(hu:W'.output=W.output)(hw:∀b,b<W.heap.size->W'.heap[b]? = W.heap[b]?):W.keptBut W' may:=by
 refine⟨ho,hu,fun i hi=>?_⟩;rw[hw i hi];cases h:W.heap[i]? with
 | none=>simp
 | some o=>cases o<;>simp
def e1V{f:FuncId}{fn:Func}{s:ChangeSpec}{ps:List (Bool×List Sh)}{tb:TypeId}{fresh handsOn again:Bool}(hps:a9H P n fn.params.toList=some ps)(hvars:s.vars=[])(hres:fn.resultTypes = #[tb])(hub:P.underlying tb=some .bool)
  (hfn:∀ds:List (DataW H),ds.length=ps.length->(s.fn H ds).results=[.lit (.bool true)]/\(s.fn H ds).args=ds/\(s.fn H ds).vars=[])
  (hspec:∀Vs,b9w ps Vs->A0e P f Vs [] (.one (false,[.b true])))
  (W:World) (base:Nat) (args:Array Value) (ds gs:List (DataW H)) (before:List MemPlace)
  (hval:∀(j:Nat) t v,fn.params[j]? = some t->args[j]? = some v->Value.okWide P W .any base t v)
  (hW:DataW.Whole enc P fn.params.toList s.vars false W args.toList ds gs before):
  Calls P f args W fun e W'=>∃v,e=.returned v/\s.post enc P fn false fresh handsOn again W args v W':=by
 have hW':=hW;obtain⟨p,q,hA,hV,rfl,hfz,hnd⟩:=hW;rw[hvars]at hV;obtain⟨rfl,rfl⟩:=trodVars_none hV;obtain⟨⟨Vs,g1,g2⟩,g3⟩:=d4D (base:=base) hps (fun j t v ht hv=>hval j t v (by simpa using ht) (by simpa using hv)) hA;have hlen:ds.length=ps.length:=by
  have l1:∀{ts:List TypeId} {ps:List (Bool×List Sh)},a9H P n ts=some ps->ps.length=ts.length:=by
   intro ts
   induction ts with
   | nil=>intro ps h;simp only[a9H,W0]at h;subst h;rfl
   | cons t ts ih=>
     intro ps h;unfold a9H at h;split at h
     ·rename_i e3;split at h
      ·obtain rfl:=Option.some.inj h;simp[ih e3]
      ·exact absurd h (by simp)
     ·exact absurd h (by simp)
  have l2:∀{ts:List TypeId} {vs:List Value} {ds:List (DataW H)} {p:List MemPlace},DataW.TrodAll enc P W 0 (fun _=>true) true ts vs ds p->ds.length=ts.length:=by
   intro ts
   induction ts with
   | nil=>intro vs ds p h;obtain⟨_,rfl,_⟩:=trodAll_nil h;rfl
   | cons t ts ih=>intro vs ds p h;obtain⟨v,vs1,d,ds1,a,b,rfl,rfl,rfl,h1,h2⟩:=trodAll_cons h;simp[ih h2]
  rw[l1 hps,l2 hA]
 obtain⟨e1,e2,e3⟩:=hfn ds hlen;have hS:=(hspec Vs g1).2 (· < W.heap.size) W args.toList [] g2 q0Z z0E (fun b hb=>hb);rw[Array.toArray_toList]at hS;refine hS.mono ?_;rintro e W' ⟨F',v,fp,fo,rfl,hr,ho,hP⟩;simp only[RRd,VRd]at hr;obtain⟨c,hc,hr⟩:=hr;simp only[K8]at hc;subst hc;simp only[C.Rd]at hr;obtain⟨rfl,rfl⟩:=hr;refine⟨_,rfl, ?_⟩;have hw:∀b,b<W.heap.size->W'.heap[b]? = W.heap[b]?:=fun b hb=>hP.fr b hb (by simp)
 have hold:∀q∈p,q.block<W.heap.size:=fun q hq=>hW'.lt q (by simpa using hq)
 have hbool:∀(b:Nat) (sp:Nat->Bool) (hd:Bool),DataW.TrodAll enc P W' b sp hd fn.resultTypes.toList ((Value.bool true).resultList fn.resultTypes.size) [.lit (.bool true)] []:=by
  intro b sp hd;rw[hres];exact⟨[],[],⟨1,by unfold DataW.trod;simp[hub,Value.cells]⟩,rfl,rfl⟩
 have hok:∀(j:Nat) (t:TypeId) (r:Value),fn.resultTypes[j]? = some t->((Value.bool true).resultList fn.resultTypes.size)[j]? = some r->Value.okWide P W' .any 0 t r:=
  ok_one hres rfl (by simp[Value.okWide,hub,Cell.okWide,Cell.ok])
 refine⟨ds,[],p++[],[],p,[],hW', ?_, ?_, ?_,d8W hP.os hP.out hw,fun _=>?_⟩
 ·rw[q0A,e1];exact hbool _ _ _
 ·rw[q0A,e2];exact g3 W' _ hw (fun q hq=>by simpa using hold q hq)
 ·rw[q0A,e3,hvars];rfl
 ·refine⟨hok,[.lit (.bool true)]++ds,[],([]++p)++[],⟨[]++p,[],trodAll_append (g3 W' _ hw (fun _ _=>rfl)) (hbool _ _ _),by rw[hvars];rfl,rfl, ?_,fun h=>by cases h⟩, ?_⟩
  ·intro b off hq;have hq':MemPlace.cell b off∈p:=by simpa using hq
   rw[World.frozen?_of_block (w:=W) (hw b (hold _ hq'))];exact hfz b off (by simpa using hq')
  ·intro q hq _;simpa using hq
end
section
variable(P:Program)(f:FuncId)(fn:Func)(s:ChangeSpec)(c:OpenClaim)
def jf1:Bool:=c.wf (OpenSpec.ofChange s)&&laidOutB P&&mapsRowed P&&fn.params.all (P.readableRec ·)&&namedTie P c.named s.vars&&(c.stops==[])&&(P.stops==[])&&(c.knobs==[])&&(P.stopKnobs==[])
def jf2:Bool:=(c.inPlace==P.inPlace f)&&(c.unfollowed==P.unfollowed f)&&(c.recurses==P.recurses f)&&(c.named==P.varsNamed f)
def jf3:Bool:=(c.maps==(fn.params.toList++s.plain.varTypes P).any (P.mapsRec ·))&&(c.ifaces==(fn.params.toList++s.plain.varTypes P).any (P.ifacesRec ·))&&(c.mapsOut==P.mapsAmong fn.resultTypes.toList)&&
 (c.loops==(fn.params.toList++s.plain.varTypes P).any (P.loopsFrom ·))&&(c.wideKeys==(fn.params.toList++s.plain.varTypes P++fn.resultTypes.toList).any (P.wideKeysFrom ·))
def jf4:Bool:=s.vars.all (P.varReadable ·)&&fn.resultTypes.all (fun t=>P.readableRec t&&decide (t<P.types.size))&&(c.ifacesOut==fn.resultTypes.toList.any (P.ifacesRec ·))&&(c.loopsOut==fn.resultTypes.toList.any (P.loopsFrom ·))&&(c.plainKeys==P.plainKeys)&&c.shortTexts.isNone
def jf5:Bool:=P.stopsHeard
def jf6:Bool:=P.mayEnter
def jf7:Bool:=(c.lifted==P.liftsFinal)&&(P.make==some c.make)
def jf8:Bool:=(c.kinds==(if c.domain.isEmpty then[]else fn.params.toList.map fun t=>match P.underlying t with|some (.int k)=>some k|_=>none))&&(c.pinned==c.pinnedBy)
def jf9:Bool:=(c.veiled==(fn.params.toList++s.plain.varTypes P++fn.resultTypes.toList).any (P.veiledRec ·))&&c.veiledFits P fn.params.toList (fn.params.toList++s.plain.varTypes P++fn.resultTypes.toList)
def d8M(h1:jf1 P fn s c=true)(h2:jf2 P f c=true)(h3:jf3 P fn s c=true)(h4:jf4 P fn s c=true)(h5:jf5 P=true)(h6:jf6 P=true)(h7:jf7 P c=true)(h8:jf8 P fn c=true)(h9:jf9 P fn s c=true):joinedFacts P f fn s c=true:=by
 have e:joinedFacts P f fn s c=(jf1 P fn s c&&(jf2 P f c&&(jf3 P fn s c&&(jf4 P fn s c&&(jf5 P&&(jf6 P&&(jf7 P c&&(jf8 P fn c&&jf9 P fn s c)))))))):=by
  simp only[joinedFacts,jf1,jf2,jf3,jf4,jf5,jf6,jf7,jf8,jf9,Bool.and_assoc];rfl
 rw[e,h1,h2,h3,h4,h5,h6,h7,h8,h9];rfl
end
end Go.Aw
namespace Go.Aw
set_option linter.all false
variable{cs:List C}{l:List Sh}
def b1J{k:IntKind}(h:ShHas (.i k::l) cs):∃n r,cs=.i k n::r/\ShHas l r:=by
 unfold ShHas at h;obtain⟨c,r,rfl,⟨n,rfl⟩,h⟩:=h;exact⟨n,r,rfl,h⟩
def c1n(h:ShHas (.s::l) cs):∃n r,cs=.s n::r/\ShHas l r:=by
 unfold ShHas at h;obtain⟨c,r,rfl,⟨n,rfl⟩,h⟩:=h;exact⟨n,r,rfl,h⟩
def c7x{l1:List Sh}(h:ShHas (.sl l1::l) cs):∃rows r,cs=.sl false (shZ l1) rows::r/\(∀x∈rows,ShHas l1 x)/\ShHas l r:=by
 unfold ShHas at h;obtain⟨c,r,rfl,hc,h⟩:=h;unfold Sh.Has at hc;obtain⟨rows,rfl,h1⟩:=hc;exact⟨rows,r,rfl,h1,h⟩
def b1K(h:ShHas [] cs):cs=[]:=by unfold ShHas at h;exact h
def a4u{α:Type}{f:α->List C}{rows:List (List C)}(h:∀r∈rows,∃x,r=f x):∃xs:List α,rows=xs.map f:=by
 induction rows with
 | nil=>exact⟨[],rfl⟩
 | cons r rows ih=>
   obtain⟨x,rfl⟩:=h r z0E;obtain⟨xs,rfl⟩:=ih (fun r hr=>h r (by simp[hr]));exact⟨x::xs,rfl⟩
def vsC{a:Bool}{r:List (Bool×List Sh)}{vs:List V}(h:b9w ((a,l)::r) vs):∃cs rest,vs=(a,cs)::rest/\ShHas l cs/\b9w r rest:=h
def vsN{vs:List V}(h:b9w [] vs):vs=[]:=h
def cInt_of(h:ShHas [.i .i64] cs):∃x,cs=a0F x:=by
 obtain⟨n,_,rfl,h1⟩:=b1J h;obtain rfl:=b1K h1;exact⟨n,rfl⟩
def d7l(h0:ShHas [.i .i64,.s] cs):∃x,cs=d8.cells x:=by
 obtain⟨x1,_,rfl,h1⟩:=b1J h0;obtain⟨x2,_,rfl,h2⟩:=c1n h1;obtain rfl:=b1K h2;exact⟨⟨x1,x2⟩,rfl⟩
def GRow_of(h0:ShHas [.sl [.i .i64,.s]] cs):∃x,cs=c7.cells false false x:=by
 obtain⟨x1r,_,rfl,x1h,h1⟩:=c7x h0;obtain⟨x1,rfl⟩:=a4u (fun r hr=>d7l (x1h r hr));obtain rfl:=b1K h1;exact⟨⟨x1⟩,rfl⟩
def d6X(h0:ShHas [.s,.i .i64,.sl [.sl [.i .i64,.s]]] cs):∃x,cs=c9.cells false false x:=by
 obtain⟨x1,_,rfl,h1⟩:=c1n h0;obtain⟨x2,_,rfl,h2⟩:=b1J h1;obtain⟨x3r,_,rfl,x3h,h3⟩:=c7x h2;obtain⟨x3,rfl⟩:=a4u (fun r hr=>GRow_of (x3h r hr));obtain rfl:=b1K h3;exact⟨⟨x1,⟨x2,x3⟩⟩,rfl⟩
def d7h(h0:ShHas [.sl [.s,.i .i64,.sl [.sl [.i .i64,.s]]]] cs):∃x,cs=c6.cells false false x:=by
 obtain⟨x1r,_,rfl,x1h,h1⟩:=c7x h0;obtain⟨x1,rfl⟩:=a4u (fun r hr=>d6X (x1h r hr));obtain rfl:=b1K h1;exact⟨⟨x1⟩,rfl⟩
def c9c(h0:ShHas [.s,.i .i64,.s] cs):∃x,cs=d9.cells x:=by
 obtain⟨x1,_,rfl,h1⟩:=c1n h0;obtain⟨x2,_,rfl,h2⟩:=b1J h1;obtain⟨x3,_,rfl,h3⟩:=c1n h2;obtain rfl:=b1K h3;exact⟨⟨x1,⟨x2,x3⟩⟩,rfl⟩
def GLit_of(h0:ShHas [.i .i64,.s,.sl [.s,.i .i64,.s],.i .i64,.s,.i .i64,.s,.s,.i .i64,.s] cs):∃x,cs=e8.cells false false x:=by
 obtain⟨x1,_,rfl,h1⟩:=b1J h0;obtain⟨x2,_,rfl,h2⟩:=c1n h1;obtain⟨x3r,_,rfl,x3h,h3⟩:=c7x h2;obtain⟨x3,rfl⟩:=a4u (fun r hr=>c9c (x3h r hr));obtain⟨x4,_,rfl,h4⟩:=b1J h3;obtain⟨x5,_,rfl,h5⟩:=c1n h4;obtain⟨x6,_,rfl,h6⟩:=b1J h5;obtain⟨x7,_,rfl,h7⟩:=c1n h6;obtain⟨x8,_,rfl,h8⟩:=c1n h7;obtain⟨x9,_,rfl,h9⟩:=b1J h8;obtain⟨x10,_,rfl,h10⟩:=c1n h9;obtain rfl:=b1K h10;exact⟨⟨x1,⟨x2,x3⟩,x4,⟨x5,⟨x6,x7⟩⟩,⟨x8,⟨x9,x10⟩⟩⟩,rfl⟩
def e0C(h0:ShHas [.i .i64,.s,.sl [.s,.i .i64,.s],.sl [.i .i64,.s,.sl [.s,.i .i64,.s],.i .i64,.s,.i .i64,.s,.s,.i .i64,.s]] cs):∃x,cs=c8.cells false false x:=by
 obtain⟨x1,_,rfl,h1⟩:=b1J h0;obtain⟨x2,_,rfl,h2⟩:=c1n h1;obtain⟨x3r,_,rfl,x3h,h3⟩:=c7x h2;obtain⟨x3,rfl⟩:=a4u (fun r hr=>c9c (x3h r hr));obtain⟨x4r,_,rfl,x4h,h4⟩:=c7x h3;obtain⟨x4,rfl⟩:=a4u (fun r hr=>GLit_of (x4h r hr));obtain rfl:=b1K h4;exact⟨⟨x1,⟨x2,x3⟩,x4⟩,rfl⟩
def e0l(h0:ShHas [.i .i64,.s,.i .i64] cs):∃x,cs=f7.cells x:=by
 obtain⟨x1,_,rfl,h1⟩:=b1J h0;obtain⟨x2,_,rfl,h2⟩:=c1n h1;obtain⟨x3,_,rfl,h3⟩:=b1J h2;obtain rfl:=b1K h3;exact⟨⟨x1,x2,x3⟩,rfl⟩
def c8Y(h0:ShHas [.sl [.i .i64,.s,.i .i64],.sl [.i .i64,.s,.sl [.s,.i .i64,.s],.sl [.i .i64,.s,.sl [.s,.i .i64,.s],.i .i64,.s,.i .i64,.s,.s,.i .i64,.s]]] cs):∃x,cs=c4.cells false false x:=by
 obtain⟨x1r,_,rfl,x1h,h1⟩:=c7x h0;obtain⟨x1,rfl⟩:=a4u (fun r hr=>e0l (x1h r hr));obtain⟨x2r,_,rfl,x2h,h2⟩:=c7x h1;obtain⟨x2,rfl⟩:=a4u (fun r hr=>e0C (x2h r hr));obtain rfl:=b1K h2;exact⟨⟨x1,x2⟩,rfl⟩
end Go.Aw
