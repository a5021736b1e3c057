/- What a run of small code keeps, second part: owned slices, calls. No condition. -/
import Derived.Test.YtkophkhamikaoaaGreatlBwakb
import Derived.Laws.MakeOwn
import Derived.Deep.AppendSrc
import Derived.Deep.Upon
namespace Go.Aw
set_option linter.all false
structure Alike(st st':St):Prop where
 bx:st.bx=st'.bx
 ow:st.ow=st'.ow
variable{y:AC}{a:Act}{ops:Array Oper}{B:Base}{ag dp tp:Bool}{Γ:Ctx}{γ γ':G}{rows ys:List (List C)}{l:List AC}{aops:List AOper}{d:List C}{fp ks:List Nat}{N b k n x:Nat}{F:Nat->Prop}{o:Oper}{P:Program}{p:Prop}{r:R}{s st st':St}{e t tx:TypeId}{v z:Value}{w:World}
section
mutual
def A2K(h:Alike st st'):∀(n:Nat) (x:AC),AC.toC st n x=AC.toC st' n x
 | n,.c y=>by cases n<;>simp[AC.toC]
 | n,.nl d=>by cases n<;>simp[AC.toC]
 | n,.cx d l=>by cases n<;>simp[AC.toC]
 | n,.ow k=>by cases n<;>simp[AC.toC,h.ow]
 | 0,.cl g xs=>by simp[AC.toC]
 | n,.un=>by cases n<;>simp[AC.toC]
 | n+1,.cl g xs=>by simp only[AC.toC,X7 h n xs]
def X7(h:Alike st st'):∀(n:Nat) (xs:List Nat),J6 st n xs=J6 st' n xs
 | n,[]=>by cases n<;>simp[J6]
 | 0,x::xs=>by simp[J6]
 | n+1,x::xs=>by simp only[J6,h.bx,A0o h n _,X7 h n xs]
def A0o(h:Alike st st'):∀(n:Nat) (l:Option (List AC)),A0c st n l=A0c st' n l
 | n,none=>by cases n<;>simp[A0c]
 | n,some []=>by cases n<;>simp[A0c]
 | 0,some (x::xs)=>by simp[A0c]
 | n+1,some (x::xs)=>by simp only[A0c,A2K h n x,A0o h n (some xs)]
end
def A2c(h:Alike st st'):∀(l:List AC),A0L st l=A0L st' l
 | []=>rfl
 | a::l=>by simp only[A0L,A2K h 40 a,A2c h l]
def A2L(h:Alike st st')(x:AV):AV.toV st x=AV.toV st' x:=by
 cases x<;>simp only[AV.toV,A2c h]
 case bp x o=>rw[A0o h,h.bx]
 case ip ag k r o n=>rw[h.ow]
def E8(st st':St)(l:List Opd):Prop:=∀x∈l,∀g,rdO st g x=rdO st' g x
def Y6(h:Alike st st')(g:Bool):∀{l:List Opd},E8 st st' l->A0f st g l=A0f st' g l
 | [],_=>rfl
 | x::l,hr=>by
   have h2:=Y6 h g (l:=l) (fun y hy=>hr y z0T);simp only[A0f,hr x z0E,A2L h,h2]
def A0A(h:Alike st st')(g:Bool):∀{l:List Opd},E8 st st' l->O2 st g l=O2 st' g l
 | [],_=>rfl
 | x::l,hr=>by
   have h2:=A0A h g (l:=l) (fun y hy=>hr y z0T);simp only[O2,hr x z0E,h2]
def A0Y(h:Alike st st')(g:Bool):∀{l:List Opd},E8 st st' l->Y2 st g l=Y2 st' g l
 | [],_=>rfl
 | x::l,hr=>by
   have h2:=A0Y h g (l:=l) (fun y hy=>hr y z0T);simp only[Y2,hr x z0E,h2]
def Z1(h:Alike st st')(g:Bool):∀{ps:List (Nat×Nat×Opd)} (cs:List AC),E8 st st' (ps.map fun q=>q.2.2)->Q4 st g cs ps=Q4 st' g cs ps
 | [],cs,_=>rfl
 | (o,n,x)::ps,cs,hr=>by
   have h1:=hr x z0E;have h2:=fun cs=>Z1 h g (ps:=ps) cs (fun y hy=>hr y (by simp only[q0D,q0B];exact .inr hy))
   simp only[Q4,h1,h2]
def A0p(g:Bool)(n:Nat){lo hi:Option Opd}(hr:E8 st st' (lo.toList++hi.toList)):X9 st g n lo hi=X9 st' g n lo hi:=by
 cases lo with
 | none=>
   cases hi with
   | none=>rfl
   | some y=>have h1:=hr y z0E g;simp only[X9,h1]
 | some x=>
   have h0:=hr x z0E g;cases hi with
   | none=>simp only[X9,h0]
   | some y=>have h1:=hr y z0E g;simp only[X9,h0,h1]
def A4c(h:Alike st st')(g:Bool){o:AOp}(hr:E8 st st' o.opds):A1 Γ st g o=A1 Γ st' g o:=by
 cases o with
 | bld ks ps=>simp only[A1,Z1 h g _ (show E8 st st' (ps.map fun q=>q.2.2)from hr)]
 | mf f cs=>simp only[A1,A0A h g (show E8 st st' cs from hr),A0Y h g (show E8 st st' cs from hr)]
 | call f l=>simp only[A1,Y6 h g (show E8 st st' l from hr)]
 | callv f l=>
   have h1:=hr f z0I;have h2:=Y6 h g (l:=l) (fun y hy=>hr y (by simp[AOp.opds,hy]));have h3:=X7 h 40;simp only[A1,h1,h2,h3]
 | slc n x lo hi mx=>
   have h1:=hr x z0I;have h2:=fun n=>A0p g n (lo:=lo) (hi:=hi) (fun y hy=>hr y (by simp only[AOp.opds,q0B];right;exact V0.2 (.inl hy)))
   cases mx with
   | none=>simp only[A1,h1,h2]
   | some m=>
     cases lo with
     | some _=>simp only[A1]
     | none=>
       cases hi with
       | none=>simp only[A1]
       | some y=>
         have h3:=hr y z0I;have h4:=hr m z0I;simp only[A1,h1,h3,h4]
 | slcs x lo hi=>
   have h1:=hr x z0I;have h2:=fun n=>A0p g n (lo:=lo) (hi:=hi) (fun y hy=>hr y (by simp only[AOp.opds,q0B];right;exact hy))
   simp only[A1,h1,h2]
 | pick c x y=>
   have h1:=hr c z0I;have h2:=hr x z0I;have h3:=hr y z0I;simp only[A1,h1,h2,h3]
 | alloc ks=>rfl
 | bsl m n ks ps=>rfl
 | mks m b ks l c=>rfl
 | bs2s x=>have h1:=hr x z0I;simp only[A1,h1,h.ow]
 | i2s x=>have h1:=hr x z0I;simp only[A1,h1]
 | box n x=>rfl
 | st n x v=>rfl
 | app m b ks x y=>rfl
 | mov x=>have h1:=hr x z0I;simp only[A1,h1]
 | ld ag n x=>have h1:=hr x z0I;simp only[A1,h1,h.bx,h.ow]
 | fa o x=>have h1:=hr x z0I;simp only[A1,h1,h.ow]
 | fl ag o n x=>have h1:=hr x z0I;simp only[A1,h1]
 | nck x=>have h1:=hr x z0I;simp only[A1,h1,h.ow]
 | not x=>have h1:=hr x z0I;simp only[A1,h1]
 | cv k x=>have h1:=hr x z0I;simp only[A1,h1]
 | ext x j=>have h1:=hr x z0I;simp only[A1,h1]
 | len x=>have h1:=hr x z0I;simp only[A1,h1,h.ow]
 | lens x=>have h1:=hr x z0I;simp only[A1,h1]
 | cps x=>have h1:=hr x z0I;simp only[A1,h1]
 | ia m x i=>have h1:=hr x z0I;have h2:=hr i z0I;simp only[A1,h1,h2,h.ow]
 | ib l m x i=>have h1:=hr x z0I;have h2:=hr i z0I;simp only[A1,h1,h2]
 | ixs x i=>have h1:=hr x z0I;have h2:=hr i z0I;simp only[A1,h1,h2]
 | ixa ag l m x i=>have h1:=hr x z0I;have h2:=hr i z0I;simp only[A1,h1,h2]
 | bin op x i=>have h1:=hr x z0I;have h2:=hr i z0I;simp only[A1,h1,h2]
 | binb op x i=>have h1:=hr x z0I;have h2:=hr i z0I;simp only[A1,h1,h2]
 | eqs ne ks x i=>have h1:=hr x z0I;have h2:=hr i z0I;simp only[A1,h1,h2]
 | min2 x i=>have h1:=hr x z0I;have h2:=hr i z0I;simp only[A1,h1,h2]
 | max2 x i=>have h1:=hr x z0I;have h2:=hr i z0I;simp only[A1,h1,h2]
def A1R(h:Alike st st'){o:AOper}(hr:∀t∈o.reads,st.sl t=st'.sl t):J8 Γ st o=J8 Γ st' o:=by
 have h1:E8 st st' o.op.opds:=by
  intro x hx g;cases x with
  | k a=>rfl
  | t n=>
    have:=hr n (by simp only[AOper.reads,V0,q2K];exact .inl ⟨.t n,hx,by simp[Opd.tmps]⟩);simp only[rdO,this]
 have h2:gOf st o.guard=gOf st' o.guard:=by
  cases hg:o.guard with
  | none=>rfl
  | some q=>
    obtain⟨s,wt⟩:=q;have:=hr s (by simp[AOper.reads,hg]);simp only[gOf,this]
 simp only[J8,h2,fun g=>A4c (Γ:=Γ) h g h1]
def A1S{o:AOper}{d:Option Nat}{v:AV}(hd:∀x,d=some x->x∉o.reads):J8 Γ (st.puto d v) o=J8 Γ st o:=by
 cases d with
 | none=>rfl
 | some d=>
   refine A1R (Γ:=Γ) (st:=st.puto (some d) v) (st':=st) ⟨rfl,rfl⟩ (fun t ht=>?_);have:t≠d:=fun e=>hd d rfl (e▸ht)
   simp[St.puto,St.put,this]
def A2F{d e:Option Nat}{v q:AV}(h:∀x,d=some x->e≠some x):(st.puto d v).puto e q=(st.puto e q).puto d v:=by
 cases d with
 | none=>rfl
 | some d=>
   cases e with
   | none=>rfl
   | some e=>
     have hne:d≠e:=fun z=>h d rfl (by rw[z])
     simp only[St.puto,St.put,St.mk.injEq,q1T,q0K]
     funext j
     by_cases h1:j=d<;>by_cases h2:j=e<;>simp_all
end
section
def E5{ao:AOper}(h:A8 P N ops o=some ao):I0 P o=some ao.op/\ao.dst=o.dst/\o.dst.any (fun d=>N<=d)=false/\(∀t∈ao.reads,t∈o.looksAt ops)/\
  ((o.guard=none/\ao.guard=none)\/∃j wt s,o.guard=some (j,wt)/\(ops[j]?).bind (·.dst)=some s/\ao.guard=some (s,wt)):=by
 unfold A8 at h;split at h
 ·exact absurd h (by simp)
 ·rename_i hd;have hd:o.dst.any (fun d=>N<=d)=false:=by simpa using hd
  split at h
  ·rename_i a0 h1 h2;split at h
   ·rename_i hr;simp only[W0]at h;subst h;refine⟨h1,rfl,hd,fun t ht=>?_,.inl ⟨h2,rfl⟩⟩;simpa using q0I.1 hr t ht
   ·exact absurd h (by simp)
  ·rename_i a0 j wt h1 h2;split at h
   ·rename_i s hs;split at h
    ·rename_i hr;simp only[W0]at h;subst h;refine⟨h1,rfl,hd,fun t ht=>?_,.inr ⟨j,wt,s,h2,hs,rfl⟩⟩;simpa using q0I.1 hr t ht
    ·exact absurd h (by simp)
   ·exact absurd h (by simp)
  ·exact absurd h z0E
def Q1{ao:AOper}{g:Bool}(h:A8 P N ops o=some ao)(hs:I5 γ st a w)(hg:gOf st ao.guard=some g):Region.wanted o (yielded ops a.tmps)=g:=by
 obtain⟨_,_,_,_,hgd⟩:=E5 h;rcases hgd with⟨h1,h2⟩|⟨j,wt,s,h1,h2,h3⟩
 ·rw[h2]at hg;simp only[gOf,W0]at hg;simp[Region.wanted,h1,hg]
 ·rw[h3]at hg;simp only[gOf]at hg;have hsl:=hs s;have hy:∀b,a.tmps.getD s undef=.bool b->yielded ops a.tmps j=some b:=by
   intro b hb;have:a.tmps[s]? = some (.bool b):=by
    rw[q4I]at hb;cases hq:a.tmps[s]? with
    | none=>rw[hq]at hb;simp[undef]at hb
    | some v=>rw[hq]at hb;simpa using hb
   simp[yielded,h2,this]
  have hn:a.tmps.getD s undef=undef->yielded ops a.tmps j=none:=by
   intro hb;unfold yielded;rw[h2];simp only[q4C];rw[q4I]at hb;cases hq:a.tmps[s]? with
   | none=>rfl
   | some v=>
     rw[hq]at hb;simp only[Option.getD_some]at hb;subst hb;rfl
  split at hg
  ·rename_i x e;simp only[W0]at hg;rw[e]at hsl;have:=hy _ hsl.bool;simp[Region.wanted,h1,this,<-hg]
  ·rename_i hh x e;simp only[W0]at hg;rw[e]at hsl;simp only[AVOk]at hsl;cases hh with
   | true=>
     have:=hy _ (AVOk.bool (hsl.1 rfl));simp[Region.wanted,h1,this,<-hg]
   | false=>
     have:=hn (hsl.2 rfl);simp[Region.wanted,h1,this,<-hg]
  ·exact absurd hg z0E
def O1{o:Oper}{c:Call}(ho:o.op=.call c){x:Operand}(hx:c.callee=.value x){f:FuncId}{caps:List Value}(hv:a.eval x=.func (.func f) #[] caps.toArray)(hf:F9 P f=true):
  (execOp a.eval o).run P w=.ok (.enter f (c.args.toList.map a.eval++caps).toArray) w:=by
 unfold F9 at hf;split at hf
 ·rename_i fn hfn;simp only[W3,q0W,beq_eq_false_iff_ne]at hf;obtain⟨h1,h2⟩:=hf;have h3:fn.body.isNone=false:=by simpa using h1
  obtain⟨cal,args,ts⟩:=c;simp only at hx;subst hx;simp only[execOp,ho,resolve,hv,Deferred.ofValue,Sem.run_bind,Sem.run_pure,q0V,invoke,callFunc,run_program,hfn];rw[if_neg z2A];simp only[h3,q2Q,if_false,Sem.run_pure]
  congr 2
  simp
 ·exact absurd hf z0E
def A4f(F:Nat->Prop)(caps:List C)(cvs:List Value)(hcv:C.RdVals F w caps cvs []):∀(vs:List V) (us:List Value),VsRd F w vs us []->VsRd F w (vs++caps.map fun c=>(false,[c])) (us++cvs) []:=by
 have base:∀(caps:List C) (cvs:List Value),C.RdVals F w caps cvs []->VsRd F w (caps.map fun c=>(false,[c])) cvs []:=by
  intro caps
  induction caps with
  | nil=>intro cvs h;unfold C.RdVals at h;simp[VsRd,h.1]
  | cons c caps ih=>
    intro cvs h;unfold C.RdVals at h;obtain⟨v,r,f1,f2,rfl,hf,h1,h2⟩:=h;obtain⟨rfl,rfl⟩:=q1P.1 hf.symm;simp only[q0D];unfold VsRd;exact⟨v,r,[],[],rfl,rfl,⟨c,rfl,h1⟩,ih r h2⟩
 intro vs
 induction vs with
 | nil=>intro us h;unfold VsRd at h;rw[h.1];simpa using base caps cvs hcv
 | cons x vs ih=>
   intro us h;unfold VsRd at h;obtain⟨v,r,f1,f2,rfl,hf,h1,h2⟩:=h;obtain⟨rfl,rfl⟩:=q1P.1 hf.symm;simp only[q1K];unfold VsRd;exact⟨v,_,[],[],rfl,rfl,h1,ih r h2⟩
def A3B{ao:AOp}(h:I0 P o=some ao)(hi:ao.isCall=true):∃c,o.op=.call c:=by
 obtain⟨dst,op,ty,pos,aft,grd⟩:=o;cases op<;>first|exact⟨_,rfl⟩|(exfalso;simp only[I0]at h;revert h;(repeat' split)<;>(intro h;first|contradiction|(cases h;done)|(cases h;cases hi;done)|(obtain⟨y,_,rfl⟩:=W7.1 h;cases hi;done)))
def A1c{ao:AOper}{v:AV}(hc:A8 P N ops o=some ao)(hΓ:J4 P Γ)(hS:Sim N B γ st a w)(h:J8 Γ st ao=some (p,v))(hp:p)
  {K:Act->World->Prop} {Q:Exit->Act->World->Prop} (hK:∀γ' a' w',Sim N B γ' (st.puto ao.dst v) a' w'->K a' w'):
  if Region.wanted o (yielded ops a.tmps)then o.wp P a w K Q\/(o.asks P a w/\LetsOut Q)else K (a.put o.dst undef) w:=by
 obtain⟨hcop,hdst,hdN,hreads,hgd⟩:=E5 hc;unfold J8 at h;split at h
 ·rename_i g hg;have hw:=Q1 hc (fun j=>hS.sl j) hg;split at h
  ·rename_i p' v' ha;simp only[K1]at h;obtain⟨rfl,rfl⟩:=h;rw[hw];cases g with
   | false=>
     simp only[q2Q,if_false];refine hK γ _ _ ?_;have hne:ao.guard≠none:=by
      intro e;rw[e]at hg;simp[gOf]at hg
     obtain⟨q,hq⟩:=Option.ne_none_iff_exists'.1 hne;rw[hq,<-hdst];exact hS.puto z1P (by simp only[gdv,AVOk];exact⟨z0E,fun _=>trivial⟩)
   | true=>
     simp only[if_true];left;have fin:∀γ' w' u,Sim N B γ' st a w'->AVOk γ' st w' v' u->K (a.put o.dst u) w':=by
      intro γ' w' u hS' hu;refine hK γ' _ _ ?_;rw[<-hdst];refine hS'.puto z1P ?_;cases ao.guard with
      | none=>exact hu
      | some q=>simp only[gdv,AVOk];exact⟨fun _=>hu,z0E⟩
     cases hic:ao.op.isCall with
     | false=>
       obtain⟨u,h1,h2⟩:=A4m (Γ:=Γ) hcop hic hS.toMem (fun j=>hS.sl j) ha hp;unfold Oper.wp;rw[h1];exact fin γ w u hS h2
     | true=>
       have callR_ok:∀{f:FuncId} {p0 p1:Prop} {vs:List V} {d:Bool} {v1:AV} {args:List Value},A0y Γ true f p0 vs d=some (p1,v1)->p1->VsRd (FB γ st) w vs args []->(d=true->VsRd γ.F w vs args [])->
         (F9 P f=true->(execOp a.eval o).run P w=.ok (.enter f args.toArray) w)->v1=v'->o.wp P a w K Q:=by
        intro f p0 p1 vs d v1 args hcr hp1 hr1 hr2 hrun hv1;subst hv1;unfold A0y at hcr;split at hcr
        ·rename_i q r hct;split at hcr
         ·rename_i hd;simp only[K1]at hcr;obtain⟨rfl,rfl⟩:=hcr;have hsp:=hΓ f vs q [] r hct (hp1.2 trivial);unfold Oper.wp;rw[hrun hsp.1];refine A4d hS hsp hr1 hr2 hd ?_;intro γ' u w' hS' hu;exact fin γ' w' u hS' hu
         ·exact absurd hcr (by simp)
        ·exact absurd hcr (by simp)
       obtain⟨c,hoc⟩:=A3B hcop hic;obtain⟨dst,op,ty,pos,aft,grd⟩:=o;simp only at hoc;subst hoc
       ·
        obtain⟨cal,args,ts⟩:=c;simp only[I0]at hcop;cases cal with
        | value x=>
          cases x with
          | func f=>
            simp only at hcop;split at hcop
            ·obtain⟨as,has,he⟩:=W7.1 hcop;rw[<-he]at ha;simp only[A1]at ha;split at ha
             ·rename_i p1 vs d hargs;obtain⟨g1,g2⟩:=A0w hS.toMem (fun j=>hS.sl j) has hargs (by
               unfold A0y at ha;split at ha
               ·split at ha
                ·simp only[K1]at ha;obtain⟨rfl,_⟩:=ha;exact hp.1
                ·exact absurd ha (by simp)
               ·exact absurd ha z0E)
              refine callR_ok ha hp g1 g2 (fun hf=>?_) rfl;have:=O1 (P:=P) (a:=a) (w:=w) (o:=⟨dst,.call ⟨.value (.func f),args,ts⟩,ty,pos,aft,grd⟩) rfl (x:=.func f) rfl (f:=f) (caps:=[]) rfl hf;simpa using this
             ·exact absurd ha (by simp)
            ·exact absurd hcop (by simp)
          | tmp n=>
            simp only at hcop;obtain⟨as,has,he⟩:=W7.1 hcop;have hx:opd P 0 (.tmp n)=some (.t n):=rfl;generalize hx':Opd.t n=x' at*
            ·rw[<-he]at ha;simp only[A1]at ha;split at ha
             ·rename_i h0 caps p1 vs d hfv hargs;have hpp:(rdO st true x').1/\p1:=by
               unfold A0y at ha;split at ha
               ·split at ha
                ·simp only[K1]at ha;obtain⟨rfl,_⟩:=ha;exact hp.1
                ·exact absurd ha (by simp)
               ·exact absurd ha (by simp)
              obtain⟨g1,g2⟩:=A0w hS.toMem (fun j=>hS.sl j) has hargs hpp.2;have e:=A0 (fun j=>hS.sl j) hx hpp.1;rw[hfv]at e;have e:=e.cell;simp only[ACOk]at e;unfold C.Rd at e;obtain⟨cvs,ev,hcr⟩:=e;refine callR_ok ha hp (A4f _ _ _ (C.RdVals.mono (F':=FB γ st) (fun b hb=>.inl hb) (fun b _=>rfl) _ _ _ (fun b hb=>by cases hb) hcr) _ _ g1) (fun hd=>A4f _ _ _ hcr _ _ (g2 hd)) (fun hf=>?_) rfl;have:=O1 (P:=P) (a:=a) (w:=w) (o:=⟨dst,.call ⟨.value (.tmp n),args,ts⟩,ty,pos,aft,grd⟩) rfl (x:=.tmp n) rfl (f:=h0) (caps:=cvs) ev hf;simpa using this
             ·rename_i h0 xs p1 vs d hfv hargs;split at ha
              ·rename_i caps hcaps;have hpp:(rdO st true x').1/\p1:=by
                unfold A0y at ha;split at ha
                ·split at ha
                 ·simp only[K1]at ha;obtain⟨rfl,_⟩:=ha;exact hp.1
                 ·exact absurd ha (by simp)
                ·exact absurd ha (by simp)
               obtain⟨g1,g2⟩:=A0w hS.toMem (fun j=>hS.sl j) has hargs hpp.2;have e:=A0 (fun j=>hS.sl j) hx hpp.1;rw[hfv]at e;have e:=e.cell;simp only[ACOk]at e;have hcr:=A0N hS.toMem 40 xs caps hcaps;refine callR_ok ha hp (A4f _ _ _ hcr _ _ g1) z0E (fun hf=>?_) rfl;have:=O1 (P:=P) (a:=a) (w:=w) (o:=⟨dst,.call ⟨.value (.tmp n),args,ts⟩,ty,pos,aft,grd⟩) rfl (x:=.tmp n) rfl (f:=h0) (caps:=xs.map fun x=>Value.pointer (some ⟨γ.β x,0,none⟩)) e hf;simpa using this
              ·exact absurd ha (by simp)
             ·exact absurd ha (by simp)
          | const v=>simp at hcop
          | global g=>simp at hcop
        | invoke r m=>simp at hcop
        | builtin b=>
          exfalso;cases b<;>simp only[reduceCtorEq]at hcop;all_goals(revert hcop;(repeat' split)<;>(intro hcop;first|contradiction|(have hz:=Option.some.inj hcop;rw[<-hz]at hic;cases hic;done)))
  ·exact absurd h (by simp)
 ·exact absurd h z0E
end
section
def qrun(Γ:Ctx):List AOper->St->(St->Prop)->Prop
 | [],st,K=>K st
 | o::l,st,K=>∃p v,J8 Γ st o=some (p,v)/\p/\qrun Γ l (st.puto o.dst v) K
def A2g(Γ:Ctx)(aops:List AOper)(i:Nat)(K:St->Prop)(st:St):Prop:=
 match aops[i]? with
 | none=>K st
 | some o=>∃p v,J8 Γ st o=some (p,v)/\p/\K (st.puto o.dst v)
def A5s{i:Nat}{K K':St->Prop}(h:∀s,K s->K' s)(hh:A2g Γ aops i K st):A2g Γ aops i K' st:=by
 unfold A2g at*;split
 ·rename_i e;rw[e]at hh;exact h _ hh
 ·rename_i o e;rw[e]at hh;obtain⟨p,v,h1,h2,h3⟩:=hh;exact⟨p,v,h1,h2,h _ h3⟩
def anyA(Γ:Ctx)(ops:Array Oper)(aops:List AOper)(Q:St->Prop):Nat->Array Bool->St->Prop
 | 0,listed,st=>Region.ready .any ops listed=[]/\Q st
 | n+1,listed,st=>(Region.ready .any ops listed=[]->Q st)/\∀i∈Region.ready .any ops listed,A2g Γ aops i (anyA Γ ops aops Q n (listed.setIfInBounds i true)) st
def A3h(P:Program)(N:Nat)(ops:Array Oper)(aops:List AOper):Prop:=∀(i:Nat) (o:Oper),ops[i]? = some o->∃ao,aops[i]? = some ao/\A8 P N ops o=some ao
def A1p{ops:Array Oper}{aops:List AOper}{Q:St->Prop}{Q':Exit->Act->World->Prop}(hf:A3h P N ops aops)(hΓ:J4 P Γ)(hQ:∀γ st a w,Sim N B γ st a w->Q st->Q' .normal a w):
  ∀(n:Nat) (listed:Array Bool) (γ:G) (st:St) (a:Act) (w:World),Sim N B γ st a w->anyA Γ ops aops Q n listed st->wpAny P .any ops Q' n listed a w
 | 0,listed,γ,st,a,w,hS,h=>⟨h.1,hQ _ _ _ _ hS h.2⟩
 | n+1,listed,γ,st,a,w,hS,h=>by
   refine⟨fun e=>hQ _ _ _ _ hS (h.1 e),fun i hi=>?_⟩;have h2:=h.2 i hi;unfold wpOp;cases ho:ops[i]? with
   | none=>
     exfalso;unfold Region.ready at hi;simp only[q0N,q4J]at hi;have:i<ops.size:=hi.1;simp[q1N this]at ho
   | some o=>
     obtain⟨ao,e1,e2⟩:=hf i o ho;unfold A2g at h2;rw[e1]at h2;obtain⟨p,v,g1,g2,g3⟩:=h2;exact A1c e2 hΓ hS g1 g2 (fun γ' a' w' hS'=>A1p hf hΓ hQ n _ γ' _ a' w' hS' g3)
def A0W{x y:Oper}{ax ay:AOper}(hx:A8 P N ops x=some ax)(hy:A8 P N ops y=some ay)(h:x.apart ops y=true):
  (∀d,ax.dst=some d->d∉ay.reads)/\(∀d,ax.dst=some d->ay.dst≠some d)/\(∀d,ay.dst=some d->d∉ax.reads):=by
 obtain⟨_,dx,_,rx,_⟩:=E5 hx;obtain⟨_,dy,_,ry,_⟩:=E5 hy;obtain⟨h1,h2,h3⟩:=Oper.apart_spec h;exact⟨fun d hd hm=>h1 d (by rw[<-dx];exact hd) (ry d hm),fun d hd hm=>h2 d (by rw[<-dx];exact hd) (by rw[<-dy];exact hm),fun d hd hm=>h3 d (by rw[<-dy];exact hd) (rx d hm)⟩
def A5t{j:Nat}{ax ay:AOper}{v:AV}{K:St->Prop}(hj:aops[j]? = some ay)(h1:∀d,ax.dst=some d->d∉ay.reads)(h2:∀d,ax.dst=some d->ay.dst≠some d)(h3:∀d,ay.dst=some d->d∉ax.reads)
  (hv:J8 Γ st ax=some (p,v)) (h:A2g Γ aops j K (st.puto ax.dst v)):A2g Γ aops j (fun s=>J8 Γ s ax=some (p,v)/\K (s.puto ax.dst v)) st:=by
 unfold A2g at*;rw[hj]at*;obtain⟨q,z,g1,g2,g3⟩:=h;rw[A1S h1]at g1;exact⟨q,z,g1,g2,by rw[A1S h3];exact hv,by rw[<-A2F h2];exact g3⟩
def A1T{listed:Array Bool}{i:Nat}(h:i∈Region.ready .any ops listed):listed.getD i true=false:=(mem_ready.1 h).1
def A3Z{Q:St->Prop}{i:Nat}{oi:Oper}{ai:AOper}{v:AV}(hf:A3h P N ops aops)(hi:ops[i]? = some oi)(hai:aops[i]? = some ai)(hci:A8 P N ops oi=some ai):
  ∀(n:Nat) (listed:Array Bool) (st:St),(∀(j:Nat) oj,ops[j]? = some oj->j≠i->listed.getD j true=false->(∀e∈oj.after,Region.binds .any e=true->e.on≠i)->oi.apart ops oj=true)->
   i∈Region.ready .any ops listed->J8 Γ st ai=some (p,v)->p->anyA Γ ops aops Q n (listed.setIfInBounds i true) (st.puto ai.dst v)->anyA Γ ops aops Q (n+1) listed st:=by
 have now:∀{K:St->Prop} {s:St},J8 Γ s ai=some (p,v)->p->K (s.puto ai.dst v)->A2g Γ aops i K s:=by
  intro K s h1 h2 h3;unfold A2g;rw[hai];exact⟨p,v,h1,h2,h3⟩
 intro n
 induction n with
 | zero=>
   intro listed st _ hr hv hp H;refine⟨fun e=>(by rw[e]at hr;cases hr),fun j hj=>?_⟩;by_cases hji:j=i
   ·subst hji;exact now hv hp H
   ·have:=ready_mono hj hji;rw[H.1]at this;cases this
 | succ n ih=>
   intro listed st hfree hr hv hp H;refine⟨fun e=>(by rw[e]at hr;cases hr),fun j hj=>?_⟩;by_cases hji:j=i
   ·subst hji;exact now hv hp H
   ·have h1:=H.2 j (ready_mono hj hji);obtain⟨hun,oj,hoj,hall⟩:=mem_ready.1 hj;obtain⟨aj,haj,hcj⟩:=hf j oj hoj;have hni:listed.getD i true=false:=A1T hr;have hnot:∀e∈oj.after,Region.binds .any e=true->e.on≠i:=by
     intro e he hb heq;have h2:=hall e he hb;rw[heq]at h2;rcases q3I i listed.size with h'|h'
     ·simp[h']at h2 hni;rw[hni]at h2;cases h2
     ·simp[q2N h']at h2
    obtain⟨b1,b2,b3⟩:=A0W hci hcj (hfree j oj hoj hji hun hnot);have h2:=A5t haj b1 b2 b3 hv h1;have hfree':∀(k:Nat) ok,ops[k]? = some ok->k≠i->(listed.setIfInBounds j true).getD k true=false->(∀e∈ok.after,Region.binds .any e=true->e.on≠i)->oi.apart ops ok=true:=by
     intro k ok hk hki hunk hno;refine hfree k ok hk hki ?_ hno;by_cases hjk:j=k
     ·subst hjk;exact hun
     ·rw[getD_set_ne true hjk]at hunk;exact hunk
    refine A5s (fun s hs=>ih (listed.setIfInBounds j true) s hfree' (ready_mono hr (Ne.symm hji)) hs.1 hp ?_) h2;rw[Array.setIfInBounds_comm _ _ hji];exact hs.2
def A3k{ops:Array Oper}{aops:List AOper}{Q:St->Prop}(hf:A3h P N ops aops):∀(l:List AOper) (k:Nat) (listed:Array Bool) (st:St),k+l.length=ops.size->(∀j,l[j]? = aops[k+j]?)->
  Region.lexFrom .any ops l.length k listed=true->qrun Γ l st Q->anyA Γ ops aops Q l.length listed st
 | [],k,listed,st,_,_,hB,h=>⟨by simpa[Region.lexFrom]using hB,h⟩
 | ao::l,k,listed,st,hlen,hl,hB,h=>by
   have h0:aops[k]? = some ao:=by simpa using(hl 0).symm
   simp only[V9]at hlen;have hk:k<ops.size:=by omega
   obtain⟨ao',e1,e2⟩:=hf k ops[k] (q1N hk);rw[h0]at e1;simp only[W0]at e1;subst e1;simp only[V9,Region.lexFrom,W3]at hB;obtain⟨⟨hr,hfr⟩,hB'⟩:=hB;obtain⟨p,v,g1,g2,g3⟩:=h;exact A3Z hf (q1N hk) h0 e2 l.length listed st (Region.free_spec (q1N hk) hfr) (by simpa using hr) g1 g2
    (A3k hf l (k+1) _ _ z0D (fun j=>by have:=hl (j+1);simpa[q3F,q4D 1 j]using this) hB' g3)
def Sim.drew(h:Sim N B γ st a w):Sim N B γ st a { w with drawn:=w.drawn+1 }:=by
 have:=h.later (F':=γ.F) (w':={ w with drawn:=w.drawn+1 }) (fun _ h=>h) (fun _ h=>.inl h) h.Fw (fun _ _=>rfl) (q0F _) rfl ⟨rfl,q4V _⟩ rfl;exact this
def O8{ops:Array Oper}:∀{l:List Oper} {r:List AOper},I7 P N ops l=some r->r.length=l.length/\∀(i:Nat) (o:Oper),l[i]? = some o->∃ao,r[i]? = some ao/\A8 P N ops o=some ao
 | [],r,h=>by simp only[I7,W0]at h;subst h;simp
 | o::l,r,h=>by
   simp only[I7]at h;split at h
   ·rename_i a0 r0 h1 h2;simp only[W0]at h;subst h;obtain⟨e,h3⟩:=O8 h2;refine⟨by simp[e], ?_⟩;intro i o' ho';cases i with
    | zero=>simp only[q2O,W0]at ho';subst ho';exact⟨a0,z0E,h1⟩
    | succ i=>simpa using h3 i o' (by simpa using ho')
   ·exact absurd h z0E
def A6N{id:Nat}{Q:St->Prop}{Q':Exit->Act->World->Prop}(hc:I7 P N ops ops.toList=some aops)(hm:P.follows .mixedOrders=true)(hB:Region.lexB .any ops=true)(hΓ:J4 P Γ)
  (hS:Sim N B γ st a w) (h:qrun Γ aops st Q) (hQ:∀γ st a w,Sim N B γ st a w->Q st->Q' .normal a w):(Code.region id ops true).wp P Q' a w:=by
 obtain⟨hlen,hfit⟩:=O8 hc;have hf:A3h P N ops aops:=fun i o ho=>hfit i o (by simpa using ho)
 simp only[Region.lexB,W3]at hB;refine wp_region_any hm (A1p hf hΓ hQ _ _ _ _ _ _ hS.drew ?_);have:=A3k (Γ:=Γ) (Q:=Q) hf aops 0 (Array.replicate ops.size false) st z2P z0E (by rw[hlen];simpa using hB.2) h;rw[hlen]at this;simpa using this
end
section
def A5T:∀{c:C} {v:Value} {fp:List Nat},C.Rd F w c v fp->v.oneCell'=true
 | .b x,v,fp,h=>by unfold C.Rd at h;rw[h.1];rfl
 | .i k n,v,fp,h=>by unfold C.Rd at h;rw[h.1];rfl
 | .s x,v,fp,h=>by unfold C.Rd at h;rw[h.1];rfl
 | .sl u d l,v,fp,h=>by unfold C.Rd at h;obtain⟨a,cap,e,_⟩:=h;rw[e];rfl
 | .p l,v,fp,h=>by unfold C.Rd at h;obtain⟨_,b,o,vs,e,_⟩:=h;rw[e];rfl
 | .f g l,v,fp,h=>by unfold C.Rd at h;obtain⟨vs,e,_⟩:=h;rw[e];rfl
 | .mp l,v,fp,h=>by unfold C.Rd at h;obtain⟨_,_,_,_,e,_⟩:=h;rw[e];rfl
 | .un,v,fp,h=>by
   unfold C.Rd at h;cases v<;>first|rfl|exact absurd rfl (h.2.1 _)|exact absurd rfl (h.2.2 _)
def A1n{c:C}(h:C.Rd F w c v fp):v.oneCell'=true:=A5T h
def ACOk.one{x:AC}(h:ACOk γ st w x v):v.oneCell'=true:=by
 cases x with
 | c y=>exact A1n h
 | nl d=>simp only[ACOk]at h;rw[h];rfl
 | ow k=>simp only[ACOk]at h;obtain⟨⟨_,_,_,e⟩,_⟩:=h;rw[e];rfl
 | cl g xs=>simp only[ACOk]at h;rw[h];rfl
 | un=>
   simp only[ACOk]at h;cases v<;>first|rfl|exact absurd rfl (h.1 _)|exact absurd rfl (h.2 _)
 | cx d l=>exact A1n h.1
def ACsOk.one:∀{l:List AC} {vs:List Value},ACsOk γ st w l vs->∀v∈vs,v.oneCell'=true
 | [],vs,h,v,hv=>by unfold ACsOk at h;subst h;cases hv
 | x::l,vs,h,v,hv=>by
   unfold ACsOk at h;obtain⟨u,r,rfl,h1,h2⟩:=h;rcases q0B.1 hv with rfl|hv
   ·exact h1.one
   ·exact ACsOk.one h2 v hv
def X6{F:Nat->Prop}:∀{l:List C} {vs:List Value} {fp:List Nat},C.RdVals F w l vs fp->∀v∈vs,v.oneCell'=true
 | [],vs,fp,h,v,hv=>by unfold C.RdVals at h;rw[h.1]at hv;cases hv
 | x::l,vs,fp,h,v,hv=>by
   unfold C.RdVals at h;obtain⟨u,r,f1,f2,rfl,_,h1,h2⟩:=h;rcases q0B.1 hv with rfl|hv
   ·exact A1n h1
   ·exact X6 h2 v hv
def A6E(h:v.oneCell'=true):(∀c,v≠.agg c)/\∀c,v≠.tuple c:=by
 constructor<;>(intro c e;subst e;simp[Value.oneCell']at h)
def VOk.cells(h:VOk γ st w ag l v):∃vs,v.cells=vs.toArray/\ACsOk γ st w l vs:=by
 cases ag with
 | true=>
   obtain⟨vs,e,h⟩:=h;exact⟨vs,by rw[e];rfl,h⟩
 | false=>
   obtain⟨c,rfl,h⟩:=h;refine⟨[v], ?_,z1S⟩;have:=h.one;cases v<;>first|rfl|simp[Value.oneCell']at this
def Sim.weak(hS:Sim N B γ st a w)(how:∀k,st'.ow k=none\/st'.ow k=st.ow k)
  (hbx:∀x cs',st'.bx x=some cs'->∃cs,st.bx x=some cs/\∀vs,ACsOk γ st w cs vs->ACsOk γ st' w cs' vs) (hsl:∀j v,AVOk γ st w (st.sl j) v->AVOk γ st' w (st'.sl j) v):Sim N B γ st' a w:=by
 have hb:∀x,(st'.bx x).isSome=true->(st.bx x).isSome=true:=by
  intro x hx;obtain⟨cs',hcs⟩:=q4E.1 hx;obtain⟨cs,h,_⟩:=hbx x cs' hcs;simp[h]
 have ho:∀k,(st'.ow k).isSome=true->(st.ow k).isSome=true:=by
  intro k hk;rcases how k with e|e
  ·rw[e]at hk;cases hk
  ·rw[<-e];exact hk
 refine⟨⟨?_,fun x hx=>hS.bxM x (hb x hx),fun x y hx hy=>hS.bxI x y (hb x hx) (hb y hy), ?_,fun k hk b hbb=>?_,fun k k' hk hk'=>hS.owI k k' (ho k hk) (ho k' hk'),hS.hF,hS.FM,hS.Fw,hS.fr,hS.sz,hS.os,hS.tape,hS.out,hS.new,hS.pv,hS.pb⟩,fun j=>hsl j _ (hS.sl j),hS.n,hS.df⟩
 ·intro x cs' h;obtain⟨cs,h1,h2⟩:=hbx x cs' h;obtain⟨c,e,h3,h4⟩:=hS.bx x cs h1;exact⟨c,e,h3,h2 _ h4⟩
 ·intro k d l h;rcases how k with e|e
  ·rw[e]at h;cases h
  ·exact hS.ow k d l (by rw[<-e];exact h)
 ·obtain⟨g1,g2,g3,g4⟩:=hS.owM k (ho k hk) b hbb;exact⟨g1,g2,g3,fun x hx=>g4 x (hb x hx)⟩
def Tr.fewer(how:∀k,st'.ow k=none\/st'.ow k=st.ow k):Tr no no no no γ st w γ st' w:=
 ⟨fun _ _=>rfl,fun _ _=>rfl,fun _ h=>h,fun _ _=>rfl,fun k d l _ _ hk=>⟨d,l,(by
  rcases how k with e|e
  ·rw[e]at hk;cases hk
  ·rw[<-e];exact hk),rfl,fun _=>rfl⟩,fun _ _ _ _ _ _ _ _ _ _ _ _ _=>rfl⟩
def ACOk.forget{x:AC}(h:ACOk γ st w x v):ACOk γ st w (AC.sub k .un x) v:=by
 cases x with
 | ow k'=>
   simp only[AC.sub];split
   ·simp only[ACOk]at*;obtain⟨⟨p,n,c,rfl⟩,_⟩:=h;exact⟨z0E,z0E⟩
   ·exact h
 | _=>exact h
def ACsOk.forget{k:Nat}:∀{l:List AC} {vs:List Value},ACsOk γ st w l vs->ACsOk γ st w (E9 k .un l) vs
 | [],vs,h=>by unfold E9;exact h
 | x::l,vs,h=>by
   unfold E9;unfold ACsOk at*;obtain⟨v,r,e,h1,h2⟩:=h;exact⟨v,r,e,h1.forget,ACsOk.forget h2⟩
def VOk.forget(h:VOk γ st w ag l v):VOk γ st w ag (E9 k .un l) v:=by
 unfold VOk at*;cases ag with
 | true=>obtain⟨vs,e,h⟩:=h;exact⟨vs,e,h.forget⟩
 | false=>obtain⟨x,e,h⟩:=h;subst e;exact⟨_,rfl,h.forget⟩
def TpOk.forget{k:Nat}:∀{l:List (Bool×List AC)} {vs:List Value},TpOk γ st w l vs->TpOk γ st w (U9 k .un l) vs
 | [],vs,h=>by unfold U9;exact h
 | (ag,x)::l,vs,h=>by
   unfold U9;unfold TpOk at*;obtain⟨v,r,e,h1,h2⟩:=h;exact⟨v,r,e,h1.forget,TpOk.forget h2⟩
def AVOk.forget:∀{x:AV} {v:Value},AVOk γ st w x v->AVOk γ st w (x.sub k .un) v
 | .u,v,h=>trivial
 | .v ag l,v,h=>by simp only[AVOk,AV.sub]at*;exact h.forget
 | .tp l,v,h=>by simp only[AVOk,AV.sub]at*;obtain⟨vs,e,h⟩:=h;exact⟨vs,e,h.forget⟩
 | .bp x o,v,h=>h
 | .fp l,v,h=>h
 | .op k' r o,v,h=>by simp only[AV.sub];split<;>first|trivial|exact h
 | .ip ag k' r o n,v,h=>by simp only[AV.sub];split<;>first|trivial|exact h
 | .gd g x,v,h=>by simp only[AVOk,AV.sub]at*;exact⟨fun e=>(h.1 e).forget,h.2⟩
def A1d:((st.sub k y).bx x).isSome=(st.bx x).isSome:=by simp[St.sub]
def J3{k':Nat}:(st.sub k y).ow k'=if k'=k then none else st.ow k':=rfl
def A1e{k':Nat}(h:((st.sub k y).ow k').isSome=true):(st.ow k').isSome=true:=by
 rw[J3]at h;split at h
 ·cases h
 ·exact h
def A2J(k':Nat):(st.sub k y).ow k'=none\/(st.sub k y).ow k'=st.ow k':=by
 rw[J3];split
 ·exact .inl rfl
 ·exact .inr rfl
def Sim.kill(hS:Sim N B γ st a w)(k:Nat):Sim N B γ (st.sub k .un) a w:=by
 have T:Tr no no no no γ st w γ (st.sub k .un) w:=Tr.fewer A2J;refine hS.weak A2J (fun x cs' h=>?_) (fun j v h=>(h.forget.tr T AV.fr_no));simp only[St.sub,W7]at h;obtain⟨cs,h1,rfl⟩:=h;exact⟨cs,h1,fun vs h=>h.forget.tr T (fun _ _=>AC.fr_no)⟩
def Sim.idle(hS:Sim N B γ st a w)(hk:(st.ow k).isSome=true)(hb:b∈γ.f k):Idle B.M γ (st.sub k y) w b:=by
 obtain⟨g1,g2,g3,g4⟩:=hS.owM k hk b hb;refine⟨g1,g2,g3,fun x hx=>g4 x (by rwa [A1d]at hx),fun k' hk'=>?_⟩;have h1:=A1e hk';refine hS.owI k k' hk h1 (fun e=>?_) b hb;subst e;rw[J3,if_pos rfl]at hk';cases hk'
def Idle.kill(h:Idle B.M γ st w b)(k:Nat)(y:AC):Idle B.M γ (st.sub k y) w b:=
 ⟨h.m,h.f,h.lt,fun x hx=>h.bx x (by rwa [A1d]at hx),fun k' hk=>h.ow k' (A1e hk)⟩
def AVOk.dpp:∀{x:AV} {v:Value},AVOk γ st w x v->AVOk γ st w (x.dpp k) v
 | .u,v,h=>trivial
 | .v ag l,v,h=>h
 | .tp l,v,h=>h
 | .bp x o,v,h=>h
 | .fp l,v,h=>h
 | .op k' r o,v,h=>by simp only[AV.dpp];split<;>first|trivial|exact h
 | .ip ag k' r o n,v,h=>by simp only[AV.dpp];split<;>first|trivial|exact h
 | .gd g x,v,h=>by simp only[AVOk,AV.dpp]at*;exact⟨fun e=>(h.1 e).dpp,h.2⟩
def AVOk.dip:∀{x:AV} {v:Value},AVOk γ st w x v->AVOk γ st w (x.dip k) v
 | .u,v,h=>trivial
 | .v ag l,v,h=>h
 | .tp l,v,h=>h
 | .bp x o,v,h=>h
 | .fp l,v,h=>h
 | .op k' r o,v,h=>h
 | .ip ag k' r o n,v,h=>by simp only[AV.dip];split<;>first|trivial|exact h
 | .gd g x,v,h=>by simp only[AVOk,AV.dip]at*;exact⟨fun e=>(h.1 e).dip,h.2⟩
def AV.fr_dpp{k:Nat}:∀{x:AV},(x.dpp k).fr no (· = k) no no
 | .u=>trivial
 | .v _ _=>fun _ _=>AC.fr_no
 | .tp _=>fun _ _ _ _=>AC.fr_no
 | .bp _ _=>id
 | .fp _=>trivial
 | .op k' r o=>by
   simp only[AV.dpp];split
   ·trivial
   ·rename_i h;exact⟨id,h⟩
 | .ip ag k' r o n=>by
   simp only[AV.dpp];split
   ·trivial
   ·rename_i h;exact⟨id,h,id⟩
 | .gd g x=>AV.fr_dpp (x:=x)
def AV.fr_dip{k:Nat}:∀{x:AV},(x.dip k).fr (· = k) no no no
 | .u=>trivial
 | .v _ _=>fun _ _=>AC.fr_no
 | .tp _=>fun _ _ _ _=>AC.fr_no
 | .bp _ _=>id
 | .fp _=>trivial
 | .op k' r o=>⟨id,id⟩
 | .ip ag k' r o n=>by
   simp only[AV.dip];split
   ·trivial
   ·rename_i h;exact⟨id,id,h⟩
 | .gd g x=>AV.fr_dip (x:=x)
def Sim.susK(hS:Sim N B γ st a w)(k:Nat):Sim N B γ (st.susK k) a w:=by
 have how:∀k',(st.susK k).ow k'=none\/(st.susK k).ow k'=st.ow k':=fun k'=>by
  simp only[St.susK];split
  ·exact .inl rfl
  ·exact .inr rfl
 have T:Tr no no no no γ st w γ (st.susK k) w:=Tr.fewer how;exact hS.weak how (fun x cs h=>⟨cs,h,fun vs h=>h.tr T (fun _ _=>AC.fr_no)⟩) (fun j v h=>h.dpp.tr T AV.fr_no)
def Sim.susB(hS:Sim N B γ st a w)(x:Nat):Sim N B γ (st.susB x) a w:=by
 have T:Tr no no no no γ st w γ (st.susB x) w:=Tr.fewer (fun k=>.inr rfl);refine hS.weak (fun k=>.inr rfl) (fun y cs h=>⟨cs, ?_,fun vs h=>h.tr T (fun _ _=>AC.fr_no)⟩) (fun j v h=>h.tr T AV.fr_no);simp only[St.susB]at h;split at h
 ·cases h
 ·exact h
def Sim.dip(hS:Sim N B γ st a w)(k:Nat):Sim N B γ (st.dip k) a w:=by
 have T:Tr no no no no γ st w γ (st.dip k) w:=Tr.slots rfl;exact hS.weak (fun k=>.inr rfl) (fun x cs h=>⟨cs,h,fun vs h=>h.tr T (fun _ _=>AC.fr_no)⟩) (fun j v h=>h.dip.tr T AV.fr_no)
def Sim.idle_susK(hS:Sim N B γ st a w)(hk:(st.ow k).isSome=true)(hb:b∈γ.f k):Idle B.M γ (st.susK k) w b:=by
 have:=hS.idle (y:=.un) hk hb;refine⟨this.m,this.f,this.lt,fun x hx=>(hS.owM k hk b hb).2.2.2 x hx,fun k' hk'=>this.ow k' ?_⟩;simp only[St.susK]at hk';rw[J3];exact hk'
def Idle.susK(h:Idle B.M γ st w b)(k:Nat):Idle B.M γ (st.susK k) w b:=by
 refine⟨h.m,h.f,h.lt,h.bx,fun k' hk=>h.ow k' ?_⟩;simp only[St.susK]at hk;split at hk
 ·cases hk
 ·exact hk
def Idle.susB(h:Idle B.M γ st w b)(x:Nat):Idle B.M γ (st.susB x) w b:=by
 refine⟨h.m,h.f,h.lt,fun y hy=>h.bx y ?_,h.ow⟩;simp only[St.susB]at hy;split at hy
 ·cases hy
 ·exact hy
def Sim.idle_susB(hS:Sim N B γ st a w)(hx:(st.bx x).isSome=true):Idle B.M γ (st.susB x) w (γ.β x):=by
 refine⟨(hS.bxM x hx).1,(hS.bxM x hx).2,hS.toMem.bx_lt hx,fun y hy e=>?_,fun k hk hb=>(hS.owM k hk _ hb).2.2.2 x hx rfl⟩;simp only[St.susB]at hy;split at hy
 ·cases hy
 ·rename_i hne;exact hne (hS.bxI y x hy hx e)
def Sim.layKey{l:List (List C)}(hS:Sim N B γ st a w)(hno:st.ow k=none)(hF:γ'.F=γ.F)(hβ:γ'.β=γ.β)(hbx:st'.bx=st.bx)(hv:∀k',k'≠k->γ'.v k'=γ.v k'/\γ'.f k'=γ.f k')(hpv:k%2=1->γ'.v k=γ.v k)
  (how:∀k',st'.ow k'=if k'=k then some (d,l)else st.ow k') (hb:∀x cs vs,st.bx x=some cs->ACsOk γ st w cs vs->ACsOk γ' st' w cs vs) (hsl:∀j v,AVOk γ st w (st.sl j) v->AVOk γ' st' w (st'.sl j) v)
  (hrd:C.Rd γ.F w (.sl true d l) (γ'.v k) (γ'.f k)) (hnd:(γ'.f k).Nodup) (hfp:∀b∈γ'.f k,Idle B.M γ st w b):Sim N B γ' st' a w:=by
 have live:∀k',k'≠k->(st'.ow k').isSome=true->(st.ow k').isSome=true:=by
  intro k' hne h;rw[how,if_neg hne]at h;exact h
 refine⟨⟨?_,fun x hx=>?_,fun x y hx hy=>?_, ?_, ?_, ?_,by rw[hF];exact hS.hF,by rw[hF];exact hS.FM,by rw[hF];exact hS.Fw,hS.fr,hS.sz,hS.os,hS.tape,hS.out,hS.new, ?_,by rw[hβ];exact hS.pb⟩,fun j=>hsl j _ (hS.sl j),hS.n,hS.df⟩
 ·intro x cs h;rw[hbx]at h;obtain⟨c,e,h1,h2⟩:=hS.bx x cs h;exact⟨c,e,by rw[hβ];exact h1,hb x cs _ h h2⟩
 ·rw[hβ,hF];exact hS.bxM x (by rw[<-hbx];exact hx)
 ·rw[hβ];exact hS.bxI x y (by rw[<-hbx];exact hx) (by rw[<-hbx];exact hy)
 ·intro k' d' rows h;by_cases hne:k'=k
  ·subst hne;rw[how,if_pos rfl]at h;simp only[K1]at h;obtain⟨rfl,rfl⟩:=h;rw[hF];exact⟨hrd,hnd⟩
  ·rw[how,if_neg hne]at h;rw[hF,(hv k' hne).1,(hv k' hne).2];exact hS.ow k' d' rows h
 ·intro k' hk' b hb';rw[hF,hβ,hbx];by_cases hne:k'=k
  ·subst hne;have:=hfp b hb';exact⟨this.m,this.f,this.lt,this.bx⟩
  ·rw[(hv k' hne).2]at hb';exact hS.owM k' (live k' hne hk') b hb'
 ·intro k1 k2 h1 h2 hne b hb1 hb2;by_cases e1:k1=k<;>by_cases e2:k2=k
  ·exact hne (e1.trans e2.symm)
  ·subst e1;rw[(hv k2 e2).2]at hb2;exact(hfp b hb1).ow k2 (live k2 e2 h2) hb2
  ·subst e2;rw[(hv k1 e1).2]at hb1;exact(hfp b hb2).ow k1 (live k1 e1 h1) hb1
  ·rw[(hv k1 e1).2]at hb1;rw[(hv k2 e2).2]at hb2;exact hS.owI k1 k2 (live k1 e1 h1) (live k2 e2 h2) hne b hb1 hb2
 ·intro k' hk';by_cases hne:k'=k
  ·subst hne;rw[hpv hk'];exact hS.pv k' hk'
  ·rw[(hv k' hne).1];exact hS.pv k' hk'
def Sim.resK{l:List (List C)}(hS:Sim N B γ s a w)(hno:s.ow k=none)(hrd:C.Rd γ.F w (.sl true d l) (γ.v k) fp)(hnd:fp.Nodup)(hfp:∀b∈fp,Idle B.M γ s w b):
  Sim N B { γ with f:=fun k'=>if k'=k then fp else γ.f k' } ({ s with sl:=fun j=>(s.sl j).dpp k }.setOw k d l) a w:=by
 have T:Tr no (· = k) no no γ s w { γ with f:=fun k'=>if k'=k then fp else γ.f k' } ({ s with sl:=fun j=>(s.sl j).dpp k }.setOw k d l) w:=by
  refine⟨fun _ _=>rfl,fun _ _=>rfl,fun _ h=>h,fun _ _=>rfl,fun k' d' l' _ hne h=>?_,fun _ _ _ _ _ _ _ _ _ _ _ _ _=>rfl⟩;simp only[St.setOw]at h;rw[if_neg hne]at h;exact⟨d',l',h,rfl,fun _=>rfl⟩
 refine hS.layKey (k:=k) (d:=d) (l:=l) hno rfl rfl rfl (fun k' hne=>⟨rfl,by simp[hne]⟩) (fun _=>rfl) (fun k'=>?_) (fun x cs vs _ h=>h.tr T (fun _ _=>AC.fr_no)) (fun j v h=>h.dpp.tr T AV.fr_dpp) (by simpa using hrd) (by simpa using hnd) (by simpa using hfp);simp only[St.setOw]
def G.key(γ:G)(k:Nat)(v:Value)(fp:List Nat):G:={ γ with v:=fun k'=>if k'=k then v else γ.v k',f:=fun k'=>if k'=k then fp else γ.f k' }
def AC.fr_sub(hy:y.fr no (· = k)):∀{x:AC},(AC.sub k y x).fr no (· = k)
 | .ow k'=>by
   simp only[AC.sub];split
   ·exact hy
   ·rename_i h;exact h
 | .cl _ _=>fun _ _=>id
 | .c _=>trivial
 | .nl _=>trivial
 | .un=>trivial
 | .cx _ _=>trivial
def U1{k:Nat}{y:AC}:∀{l:List AC},E9 k y l=l.map (AC.sub k y)
 | []=>rfl
 | x::l=>by simp[E9,U1 (l:=l)]
def A2a{k:Nat}{y:AC}:∀{l:List (Bool×List AC)},U9 k y l=l.map fun p=>(p.1,E9 k y p.2)
 | []=>rfl
 | (g,x)::l=>by simp[U9,A2a (l:=l)]
def AV.fr_sub{k:Nat}{y:AC}(hy:y.fr no (· = k)):∀{x:AV},(x.sub k y).fr no no no (· = k)
 | .u=>trivial
 | .v _ l=>by
   simp only[AV.sub,AV.fr,U1];intro c hc;obtain⟨x,_,rfl⟩:=q0R.1 hc;exact AC.fr_sub hy
 | .tp l=>by
   simp only[AV.sub,AV.fr,A2a];intro p hp c hc;obtain⟨x,_,rfl⟩:=q0R.1 hp;simp only[U1]at hc;obtain⟨x,_,rfl⟩:=q0R.1 hc;exact AC.fr_sub hy
 | .bp _ _=>id
 | .fp _=>trivial
 | .op k' r o=>by
   simp only[AV.sub];split
   ·trivial
   ·rename_i h;exact⟨h,id⟩
 | .ip ag k' r o n=>by
   simp only[AV.sub];split
   ·trivial
   ·rename_i h;exact⟨h,id,id⟩
 | .gd g x=>AV.fr_sub hy (x:=x)
def A1k{y:AC}(hy:y.fr no (· = k)):∀c∈E9 k y l,c.fr no (· = k):=by
 intro c hc;rw[U1]at hc;obtain⟨x,_,rfl⟩:=q0R.1 hc;exact AC.fr_sub hy
def Sim.newKey{l:List (List C)}(hS:Sim N B γ (s.sub k .un) a w)(hk:k%2=0)
  (hrd:C.Rd γ.F w (.sl true d l) v fp) (hnd:fp.Nodup) (hfp:∀b∈fp,Idle B.M γ (s.sub k .un) w b):
  Sim N B (γ.key k v fp) ((s.sub k .un).setOw k d l) a w:=by
 have T:Tr no no no (· = k) γ (s.sub k .un) w (γ.key k v fp) ((s.sub k .un).setOw k d l) w:=by
  refine⟨fun _ _=>rfl,fun k' hne=>by simp only[G.key];rw[if_neg hne],fun _ h=>h,fun _ _=>rfl,fun k' d' l' hne _ h=>?_,fun _ _ _ _ _ _ _ _ _ _ _ _ _=>rfl⟩;simp only[St.setOw]at h;rw[if_neg hne]at h;exact⟨d',l',h,rfl,fun _=>rfl⟩
 refine hS.layKey (k:=k) (d:=d) (l:=l) (by rw[J3,if_pos rfl]) rfl rfl rfl (fun k' hne=>⟨by simp[G.key,hne],by simp[G.key,hne]⟩) (fun h=>z0D) (fun k'=>by simp only[St.setOw]) ?_ ?_ (by simpa[G.key]using hrd) (by simpa[G.key]using hnd) (by simpa[G.key]using hfp)
 ·intro x cs vs h1 h;simp only[St.sub,W7]at h1;obtain⟨cs',_,rfl⟩:=h1;exact h.tr T (A1k (y:=.un) trivial)
 ·intro j v h;exact h.tr T (AV.fr_sub (y:=.un) trivial)
def Sim.turnKey{w':World}{d':List C}{l l':List (List C)}(hS:Sim N B γ st a w)(hk:st.ow k=some (d,l))(hT:Turn (fun b=>b∈γ.f k\/Idle B.M γ st w b) w w')
  (hd:d'.length=d.length) (hrd:C.Rd γ.F w' (.sl true d' l') (γ.v k) fp) (hnd:fp.Nodup) (hfp:∀b∈fp,b∈γ.f k\/Idle B.M γ st w b):
  Sim N B { γ with f:=fun k'=>if k'=k then fp else γ.f k' } ((st.dip k).setOw k d' l') a w':=by
 have hks:(st.ow k).isSome=true:=by rw[hk];rfl
 have hsame:Q2 w w' γ.F:=fun b hb=>hT.fr b (hS.Fw b hb) (by
  rintro(h|h)
  ·exact(hS.owM k hks b h).2.1 hb
  ·exact h.f hb)
 have live:∀k',(((st.dip k).setOw k d' l').ow k').isSome=true->(st.ow k').isSome=true:=fun k' h=>by
  simp only[St.setOw,St.dip]at h;split at h
  ·rename_i e;subst e;exact hks
  ·exact h
 have hownS:∀k',k'≠k->(st.ow k').isSome=true->∀b∈γ.f k',w'.heap[b]? = w.heap[b]?:=fun k' hne hk' b hb=>hT.fr b (hS.owM k' hk' b hb).2.2.1 (by
  rintro(h|h)
  ·exact hS.owI k k' hks hk' (Ne.symm hne) b h hb
  ·exact h.ow k' hk' hb)
 have hM:∀b∈fp,B.M b/\¬γ.F b/\b<w.heap.size/\(∀x,(st.bx x).isSome=true->γ.β x≠b)/\∀k',k'≠k->(st.ow k').isSome=true->b∉γ.f k':=by
  intro b hb;rcases hfp b hb with h|h
  ·obtain⟨g1,g2,g3,g4⟩:=hS.owM k hks b h;exact⟨g1,g2,g3,g4,fun k' hne hk'=>hS.owI k k' hks hk' (Ne.symm hne) b h⟩
  ·exact⟨h.m,h.f,h.lt,h.bx,fun k' _ hk'=>h.ow k' hk'⟩
 have T:Tr (· = k) no no no γ st w { γ with f:=fun k'=>if k'=k then fp else γ.f k' } ((st.dip k).setOw k d' l') w':=by
  refine⟨fun _ _=>rfl,fun _ _=>rfl,fun _ h=>h,hsame,fun k' d2 l2 _ _ h=>?_,fun k' d2 l2 _ _ hne h hl b off n c hv=>?_⟩
  ·simp only[St.setOw,St.dip]at h;split at h
   ·rename_i e;subst e;simp only[K1]at h;obtain⟨rfl,rfl⟩:=h;exact⟨d,l,hk,hd.symm,fun h=>absurd rfl h⟩
   ·exact⟨d2,l2,h,rfl,fun _=>rfl⟩
  ·simp only[St.setOw,St.dip]at h;rw[if_neg hne]at h;exact hownS k' hne z0Y b (Z4 (hS.ow k' d2 l2 h).1 hl hv)
 have hw:∀b,b<w.heap.size->b<w'.heap.size:=fun b hb=>q1O hb hT.sz
 refine⟨⟨?_,hS.bxM,hS.bxI, ?_, ?_, ?_,hS.hF,hS.FM,fun b hb=>hw b (hS.Fw b hb), ?_,q3B hS.sz hT.sz,hT.os.trans hS.os,hT.tape.trans hS.tape,hT.out.trans hS.out,hS.new,hS.pv,hS.pb⟩,fun j=>(hS.sl j).dip.tr T AV.fr_dip,hS.n,hS.df⟩
 ·intro x cs hx;obtain⟨c,e,h1,h2⟩:=hS.bx x cs hx;have hxs:(st.bx x).isSome=true:=by rw[show st.bx x=some cs from hx];rfl
  refine⟨c,e, ?_,h2.tr T (fun _ _=>AC.fr_no)⟩;have:=hT.fr (γ.β x) (hS.toMem.bx_lt hxs) (by
   rintro(h|h)
   ·exact(hS.owM k hks _ h).2.2.2 x hxs rfl
   ·exact h.bx x hxs rfl)
  show w'.heap[γ.β x]? = _;rw[this];exact h1
 ·intro k' d2 rows h;simp only[St.setOw,St.dip]at h;split at h
  ·rename_i e;simp only[K1]at h;obtain⟨rfl,rfl⟩:=h;subst e;simp only[if_true];exact⟨hrd,hnd⟩
  ·rename_i hne;simp only[hne,if_false];obtain⟨g1,g2⟩:=hS.ow k' d2 rows h;exact⟨C.Rd.mono (fun _ h=>h) hsame _ _ _ (fun b hb=>hownS k' hne z0Y b hb) g1,g2⟩
 ·intro k' hk' b hb;simp only at hb;split at hb
  ·obtain⟨g1,g2,g3,g4,_⟩:=hM b hb;exact⟨g1,g2,hw b g3,g4⟩
  ·obtain⟨g1,g2,g3,g4⟩:=hS.owM k' (live k' hk') b hb;exact⟨g1,g2,hw b g3,g4⟩
 ·intro k1 k2 h1 h2 hne b hb hb2;have h1:=live k1 h1;have h2:=live k2 h2;simp only at hb hb2;split at hb<;>split at hb2
  ·rename_i e1 e2;exact hne (e1.trans e2.symm)
  ·rename_i e1 e2;exact(hM b hb).2.2.2.2 k2 e2 h2 hb2
  ·rename_i e1 e2;exact(hM b hb2).2.2.2.2 k1 e1 h1 hb
  ·exact hS.owI k1 k2 h1 h2 hne b hb hb2
 ·intro b hb;rcases q3I b w.heap.size with h|h
  ·rw[hT.fr b h (by
    rintro(h|h)
    ·exact hb (hS.owM k hks b h).1
    ·exact hb h.m)]
   exact hS.fr b hb
  ·exact absurd (hS.new b (q3B hS.sz h)) hb
def G.box(γ:G)(x b:Nat):G:={ γ with β:=fun y=>if y=x then b else γ.β y }
def ACOk.dropB{c:AC}(h:ACOk γ st w c v):ACOk γ st w (c.dropB x) v:=by
 cases c with
 | cl g xs=>
   simp only[AC.dropB];split
   ·simp only[ACOk]at*;rw[h];exact⟨z0E,z0E⟩
   ·exact h
 | _=>exact h
def A2q{x:Nat}:∀{l:List AC},A7 x l=l.map (AC.dropB x)
 | []=>rfl
 | c::l=>by simp[A7,A2q (l:=l)]
def A2r{x:Nat}:∀{l:List (Bool×List AC)},J5 x l=l.map fun p=>(p.1,A7 x p.2)
 | []=>rfl
 | (g,c)::l=>by simp[J5,A2r (l:=l)]
def ACsOk.dropB{x:Nat}:∀{l:List AC} {vs:List Value},ACsOk γ st w l vs->ACsOk γ st w (A7 x l) vs
 | [],vs,h=>by unfold A7;exact h
 | c::l,vs,h=>by
   unfold A7;unfold ACsOk at*;obtain⟨v,r,e,h1,h2⟩:=h;exact⟨v,r,e,h1.dropB,ACsOk.dropB h2⟩
def VOk.dropB(h:VOk γ st w ag l v):VOk γ st w ag (A7 x l) v:=by
 unfold VOk at*;cases ag with
 | true=>obtain⟨vs,e,h⟩:=h;exact⟨vs,e,h.dropB⟩
 | false=>obtain⟨c,e,h⟩:=h;subst e;exact⟨_,rfl,h.dropB⟩
def TpOk.dropB{x:Nat}:∀{l:List (Bool×List AC)} {vs:List Value},TpOk γ st w l vs->TpOk γ st w (J5 x l) vs
 | [],vs,h=>by unfold J5;exact h
 | (ag,c)::l,vs,h=>by
   unfold J5;unfold TpOk at*;obtain⟨v,r,e,h1,h2⟩:=h;exact⟨v,r,e,h1.dropB,TpOk.dropB h2⟩
def AVOk.dropB:∀{c:AV} {v:Value},AVOk γ st w c v->AVOk γ st w (c.dropB x) v
 | .u,v,h=>trivial
 | .v ag l,v,h=>by simp only[AV.dropB,AVOk]at*;exact h.dropB
 | .tp l,v,h=>by simp only[AV.dropB,AVOk]at*;obtain⟨vs,e,h⟩:=h;exact⟨vs,e,h.dropB⟩
 | .bp y o,v,h=>by simp only[AV.dropB];split<;>first|trivial|exact h
 | .fp l,v,h=>h
 | .op k r o,v,h=>h
 | .ip ag k r o n,v,h=>h
 | .gd g c,v,h=>by simp only[AV.dropB,AVOk]at*;exact⟨fun e=>(h.1 e).dropB,h.2⟩
def AC.fr_dropB:∀{c:AC},(c.dropB x).fr (· = x) no
 | .ow k=>id
 | .cl g xs=>by
   simp only[AC.dropB];split
   ·trivial
   ·rename_i h;intro y hy e;subst e;exact h (by simpa using hy)
 | .c _=>trivial
 | .nl _=>trivial
 | .un=>trivial
 | .cx _ _=>trivial
def O7:∀c∈A7 x l,c.fr (· = x) no:=by
 intro c hc;rw[A2q]at hc;obtain⟨y,_,rfl⟩:=q0R.1 hc;exact AC.fr_dropB
def AV.fr_dropB{x:Nat}:∀{c:AV},(c.dropB x).fr no no (· = x) no
 | .u=>trivial
 | .v _ l=>O7
 | .tp l=>by
   simp only[AV.dropB,AV.fr,A2r];intro p hp;obtain⟨y,_,rfl⟩:=q0R.1 hp;exact O7
 | .bp y o=>by
   simp only[AV.dropB];split
   ·trivial
   ·rename_i h;exact h
 | .fp _=>trivial
 | .op k r o=>⟨id,id⟩
 | .ip ag k r o n=>⟨id,id,id⟩
 | .gd g c=>AV.fr_dropB (c:=c)
def Sim.layBox{c:Array Value}(hS:Sim N B γ st a w)(hno:st.bx x=none)(hF:γ'.F=γ.F)(hv:γ'.v=γ.v)(hf:γ'.f=γ.f)(how:st'.ow=st.ow)(hβ:∀y,y≠x->γ'.β y=γ.β y)(hpb:x%2=1->γ'.β x=γ.β x)
  (hbx:∀y,y≠x->∀cs',st'.bx y=some cs'->∃cs,st.bx y=some cs/\∀vs,ACsOk γ st w cs vs->ACsOk γ' st' w cs' vs) (hb:st'.bx x=some l) (hl:ACsOk γ' st' w l c.toList) (hsl:∀j v,AVOk γ st w (st.sl j) v->AVOk γ' st' w (st'.sl j) v)
  (hh:w.heap[γ'.β x]? = some (.cells c e (0,0))) (hi:Idle B.M γ st w (γ'.β x)):Sim N B γ' st' a w:=by
 have live:∀y,y≠x->(st'.bx y).isSome=true->(st.bx y).isSome=true:=by
  intro y hne h;obtain⟨cs',hcs⟩:=q4E.1 h;obtain⟨cs,h1,_⟩:=hbx y hne cs' hcs;simp[h1]
 refine⟨⟨?_,fun y hy=>?_,fun y z hy hz he=>?_, ?_, ?_, ?_,by rw[hF];exact hS.hF,by rw[hF];exact hS.FM,by rw[hF];exact hS.Fw,hS.fr,hS.sz,hS.os,hS.tape,hS.out,hS.new,by rw[hv];exact hS.pv, ?_⟩,fun j=>hsl j _ (hS.sl j),hS.n,hS.df⟩
 ·intro y cs' h;by_cases hne:y=x
  ·subst hne;rw[hb]at h;obtain rfl:=Option.some.inj h;exact⟨c,e,hh,hl⟩
  ·obtain⟨cs,h1,h2⟩:=hbx y hne cs' h;obtain⟨c',e',h3,h4⟩:=hS.bx y cs h1;exact⟨c',e',by rw[hβ y hne];exact h3,h2 _ h4⟩
 ·by_cases hne:y=x
  ·subst hne;rw[hF];exact⟨hi.m,hi.f⟩
  ·rw[hβ y hne,hF];exact hS.bxM y (live y hne hy)
 ·by_cases e1:y=x<;>by_cases e2:z=x
  ·rw[e1,e2]
  ·subst e1;rw[hβ z e2]at he;exact absurd he.symm (hi.bx z (live z e2 hz))
  ·subst e2;rw[hβ y e1]at he;exact absurd he (hi.bx y (live y e1 hy))
  ·rw[hβ y e1,hβ z e2]at he;exact hS.bxI y z (live y e1 hy) (live z e2 hz) he
 ·intro k d rows h;rw[how]at h;rw[hF,hv,hf];exact hS.ow k d rows h
 ·intro k hk b hb';rw[how]at hk;rw[hf]at hb';obtain⟨g1,g2,g3,g4⟩:=hS.owM k hk b hb';rw[hF];refine⟨g1,g2,g3,fun y hy=>?_⟩;by_cases hne:y=x
  ·subst hne;intro e;exact hi.ow k hk (e▸hb')
  ·rw[hβ y hne];exact g4 y (live y hne hy)
 ·intro k1 k2 h1 h2;rw[how]at h1 h2;rw[hf];exact hS.owI k1 k2 h1 h2
 ·intro y hy;by_cases hne:y=x
  ·subst hne;rw[hpb hy];exact hS.pb y hy
  ·rw[hβ y hne];exact hS.pb y hy
def Sim.resB{c:Array Value}(hS:Sim N B γ st a w)(hno:st.bx x=none)(hl:ACsOk γ st w l c.toList)(hh:w.heap[γ.β x]? = some (.cells c e (0,0)))(hi:Idle B.M γ st w (γ.β x)):Sim N B γ (st.setBx x l) a w:=by
 have T:Tr no no no no γ st w γ (st.setBx x l) w:=Tr.slots rfl;refine hS.layBox (x:=x) (l:=l) (c:=c) (e:=e) hno rfl rfl rfl rfl (fun _ _=>rfl) (fun _=>rfl) (fun y hne cs' h=>⟨cs', ?_,fun vs h=>h.tr T (fun _ _=>AC.fr_no)⟩) (by simp[St.setBx]) (hl.tr T (fun _ _=>AC.fr_no)) (fun j v h=>h.tr T AV.fr_no) hh hi;simpa[St.setBx,hne]using h
def Sim.dropB(hS:Sim N B γ st a w)(x:Nat):Sim N B γ { sl:=fun j=>(st.sl j).dropB x,bx:=fun y=>if y=x then none else(st.bx y).map (A7 x),ow:=st.ow } a w:=by
 have T:Tr no no no no γ st w γ { sl:=fun j=>(st.sl j).dropB x,bx:=fun y=>if y=x then none else(st.bx y).map (A7 x),ow:=st.ow } w:=Tr.slots rfl;refine hS.weak (fun k=>.inr rfl) (fun y cs' h=>?_) (fun j v h=>h.dropB.tr T AV.fr_no);simp only at h;split at h
 ·cases h
 ·obtain⟨cs,h1,rfl⟩:=W7.1 h;exact⟨cs,h1,fun vs h=>h.dropB.tr T (fun _ _=>AC.fr_no)⟩
def Sim.newBox{c:Array Value}(hS:Sim N B γ st a w)(hx:x%2=0)(hl:ACsOk γ st w l c.toList)(hh:w.heap[b]? = some (.cells c e (0,0)))(hi:Idle B.M γ st w b):Sim N B (γ.box x b) (st.newBx x l) a w:=by
 have h0:=hS.dropB x;have T:Tr no no (· = x) no γ { sl:=fun j=>(st.sl j).dropB x,bx:=fun y=>if y=x then none else(st.bx y).map (A7 x),ow:=st.ow } w (γ.box x b) (st.newBx x l) w:=
  ⟨fun y hne=>by simp only[G.box];rw[if_neg hne],fun _ _=>rfl,fun _ h=>h,fun _ _=>rfl,fun k d l _ _ hk=>⟨d,l,hk,rfl,fun _=>rfl⟩,fun _ _ _ _ _ _ _ _ _ _ _ _ _=>rfl⟩
 have T0:Tr no no no no γ st w γ { sl:=fun j=>(st.sl j).dropB x,bx:=fun y=>if y=x then none else(st.bx y).map (A7 x),ow:=st.ow } w:=Tr.slots rfl;refine h0.layBox (x:=x) (l:=A7 x l) (c:=c) (e:=e) z0E rfl rfl rfl rfl (fun y hne=>by simp[G.box,hne]) (fun h=>z0D) (fun y hne cs' h=>⟨cs', ?_, ?_⟩) (by simp[St.newBx]) ((hl.dropB.tr T0 (fun _ _=>AC.fr_no)).tr T O7) (fun j v h=>h.tr T AV.fr_dropB) (by simpa[G.box]using hh) ?_
 ·simpa[St.newBx,hne]using h
 ·simp only[St.newBx,hne,if_false,W7]at h;obtain⟨cs,_,rfl⟩:=h;exact fun vs h=>h.tr T O7
 ·simp only[G.box,if_true];refine⟨hi.m,hi.f,hi.lt,fun y hy=>hi.bx y ?_,hi.ow⟩;simp only at hy;split at hy
  ·cases hy
  ·simpa using hy
end
def St.frK(st:St)(k:Nat):St:=match st.ow k with|some (d,l)=>st.sub k (.c (.sl false (C.freeL d) (C.freeRs l)))|none=>st
def St.frKs:St->List Nat->St
 | st,[]=>st
 | st,k::ks=>(st.frK k).frKs ks
def F3:List AC->List Nat
 | []=>[]
 | .ow k::l=>k::F3 l
 | .c _::l=>F3 l
 | .nl _::l=>F3 l
 | .cl _ _::l=>F3 l
 | .un::l=>F3 l
 | .cx _ _::l=>F3 l
def St.ren(st:St)(k k':Nat):St:=if k=k' then st else if k'%2=0 then(match st.ow k with|some (d,l)=>((st.sub k' .un).sub k (.ow k')).setOw k' d l|none=>st)else if k'=1 then st.frK k else st
def cellKey(st:St)(k':Nat):AC->Option St
 | .ow k=>some (st.ren k k')
 | _=>none
def St.nilS(st:St)(dp:Bool)(j p k':Nat)(ag:Bool)(l:List AC)(d:List C):St:=
 (((st.sub k' .un).setOw k' (flD dp d) []).put j (.v ag ((E9 k' .un l).set p (.ow k'))))
def St.nilB(st:St)(dp:Bool)(x p k':Nat)(l:List AC)(d:List C):St:=
 (((st.sub k' .un).setOw k' (flD dp d) []).setBx x ((E9 k' .un l).set p (.ow k')))
def St.keyS(st:St)(dp:Bool)(j p k':Nat):St:=match st.sl j with
 | .v ag l=>match l[p]? with
   | some (.ow k)=>st.ren k k'
   | some (.nl d)=>if k'%2=0 then st.nilS dp j p k' ag l d else st
   | _=>st
 | _=>st
def St.keyB(st:St)(dp:Bool)(x p k':Nat):St:=match st.bx x with
 | some l=>match l[p]? with
   | some (.ow k)=>st.ren k k'
   | some (.nl d)=>if k'%2=0 then st.nilB dp x p k' l d else st
   | _=>st
 | none=>st
def St.keys(st:St)(dp:Bool):List (Bool×Nat×Nat×Nat)->St
 | []=>st
 | (b,j,p,k')::l=>(bif b then st.keyB dp j p k' else st.keyS dp j p k').keys dp l
def put_sl'(st:St)(d j:Nat)(v:AV):(st.put d v).sl j=if j=d then v else st.sl j:=rfl
section
def ACOk.subst(hy:ACOk γ st w y (γ.v k)){x:AC}(h:ACOk γ st w x v):ACOk γ st w (AC.sub k y x) v:=by
 cases x with
 | ow k'=>
   simp only[AC.sub];split
   ·rename_i e;subst e;simp only[ACOk]at h;rw[h.2];exact hy
   ·exact h
 | _=>exact h
def ACsOk.subst{k:Nat}{y:AC}(hy:ACOk γ st w y (γ.v k)):∀{l:List AC} {vs:List Value},ACsOk γ st w l vs->ACsOk γ st w (E9 k y l) vs
 | [],vs,h=>by unfold E9;exact h
 | x::l,vs,h=>by
   unfold E9;unfold ACsOk at*;obtain⟨v,r,e,h1,h2⟩:=h;exact⟨v,r,e,ACOk.subst hy h1,ACsOk.subst hy h2⟩
def VOk.subst(hy:ACOk γ st w y (γ.v k))(h:VOk γ st w ag l v):VOk γ st w ag (E9 k y l) v:=by
 unfold VOk at*;cases ag with
 | true=>obtain⟨vs,e,h⟩:=h;exact⟨vs,e,ACsOk.subst hy h⟩
 | false=>obtain⟨x,e,h⟩:=h;subst e;exact⟨_,rfl,ACOk.subst hy h⟩
def TpOk.subst{k:Nat}{y:AC}(hy:ACOk γ st w y (γ.v k)):∀{l:List (Bool×List AC)} {vs:List Value},TpOk γ st w l vs->TpOk γ st w (U9 k y l) vs
 | [],vs,h=>by unfold U9;exact h
 | (ag,x)::l,vs,h=>by
   unfold U9;unfold TpOk at*;obtain⟨v,r,e,h1,h2⟩:=h;exact⟨v,r,e,VOk.subst hy h1,TpOk.subst hy h2⟩
def AVOk.subst{k:Nat}{y:AC}(hy:ACOk γ st w y (γ.v k)):∀{x:AV} {v:Value},AVOk γ st w (x.dpp k) v->AVOk γ st w (x.sub k y) v
 | .u,v,h=>trivial
 | .v ag l,v,h=>by simp only[AV.dpp,AVOk,AV.sub]at*;exact VOk.subst hy h
 | .tp l,v,h=>by simp only[AV.dpp,AVOk,AV.sub]at*;obtain⟨vs,e,h⟩:=h;exact⟨vs,e,TpOk.subst hy h⟩
 | .bp x o,v,h=>h
 | .fp l,v,h=>h
 | .op k' r o,v,h=>by
   simp only[AV.dpp,AV.sub]at*;split<;>rename_i e
   ·trivial
   ·rw[if_neg e]at h;exact h
 | .ip ag k' r o n,v,h=>by
   simp only[AV.dpp,AV.sub]at*;split<;>rename_i e
   ·trivial
   ·rw[if_neg e]at h;exact h
 | .gd g x,v,h=>by simp only[AV.dpp,AVOk,AV.sub]at*;exact⟨fun e=>AVOk.subst hy (h.1 e),h.2⟩
def Sim.frK(hS:Sim N B γ st a w)(k:Nat):∃γ',Sim N B γ' (st.frK k) a w/\γ'.β=γ.β/\γ'.v=γ.v/\γ'.f=γ.f/\(∀b,γ.F b->γ'.F b)/\((st.ow k).isSome=true->∀b∈γ.f k,γ'.F b):=by
 cases hk:st.ow k with
 | none=>exact⟨γ,by simp only[St.frK,hk];exact hS,rfl,rfl,rfl,fun _ h=>h,fun h=>by cases h⟩
 | some q=>
   obtain⟨d,l⟩:=q;have hks:(st.ow k).isSome=true:=by rw[hk];rfl
   have h1:=(hS.susK k).world (F':=fun b=>γ.F b\/b∈γ.f k) (w':=w) ⟨fun _ _ _=>rfl,q0F _,rfl,Tp.of rfl rfl,rfl⟩ (fun _ h=>.inl h) (fun b hb=>hb.imp id (fun h=>.inl (hS.idle_susK hks h))) (fun b hb=>by
    rcases hb with h|h
    ·exact hS.Fw b h
    ·exact(hS.owM k hks b h).2.2.1)
   refine⟨{ γ with F:=fun b=>γ.F b\/b∈γ.f k }, ?_,rfl,rfl,rfl,fun _ h=>.inl h,fun _ b hb=>.inr hb⟩;simp only[St.frK,hk];have how:∀k',(st.sub k (.c (.sl false (C.freeL d) (C.freeRs l)))).ow k'=none\/(st.sub k (.c (.sl false (C.freeL d) (C.freeRs l)))).ow k'=(st.susK k).ow k':=fun k'=>.inr rfl
   have T:Tr no no no no { γ with F:=fun b=>γ.F b\/b∈γ.f k } (st.susK k) w { γ with F:=fun b=>γ.F b\/b∈γ.f k } (st.sub k (.c (.sl false (C.freeL d) (C.freeRs l)))) w:=Tr.fewer how;have hy:ACOk { γ with F:=fun b=>γ.F b\/b∈γ.f k } (st.sub k (.c (.sl false (C.freeL d) (C.freeRs l)))) w (.c (.sl false (C.freeL d) (C.freeRs l))) (γ.v k):=by
    simp only[ACOk];have:=C.Rd.free (F':=fun b=>γ.F b\/b∈γ.f k) (fun _ h=>.inl h) _ _ _ (fun b hb=>.inr hb) (hS.ow k d l hk).1;unfold C.free at this;exact this
   refine h1.1.weak how (fun x cs' h=>?_) (fun j v h=>AVOk.subst hy (h.tr T AV.fr_no));simp only[St.sub,W7]at h;obtain⟨cs,h2,rfl⟩:=h;exact⟨cs,h2,fun vs h=>ACsOk.subst hy (h.tr T (fun _ _=>AC.fr_no))⟩
def Sim.frKs:∀{ks:List Nat} {γ:G} {st:St},Sim N B γ st a w->∃γ',Sim N B γ' (st.frKs ks) a w/\γ'.β=γ.β/\γ'.v=γ.v/\γ'.f=γ.f/\(∀b,γ.F b->γ'.F b)
 | [],γ,st,hS=>⟨γ,hS,rfl,rfl,rfl,fun _ h=>h⟩
 | k::ks,γ,st,hS=>by
   obtain⟨γ1,h1,e1,e2,e3,e4,_⟩:=hS.frK k;obtain⟨γ2,h2,g1,g2,g3,g4⟩:=Sim.frKs (ks:=ks) h1;exact⟨γ2,h2,g1.trans e1,g2.trans e2,g3.trans e3,fun b hb=>g4 b (e4 b hb)⟩
def AV.fr_dpp'{X Q Y Z:Nat->Prop}{k:Nat}:∀{z:AV},z.fr X Q Y Z->(z.dpp k).fr X Q Y Z
 | .u,h=>h
 | .v _ _,h=>h
 | .tp _,h=>h
 | .bp _ _,h=>h
 | .fp _,h=>h
 | .op k' r o,h=>by
   simp only[AV.dpp];split
   ·trivial
   ·exact h
 | .ip ag k' r o n,h=>by
   simp only[AV.dpp];split
   ·trivial
   ·exact h
 | .gd g x,h=>AV.fr_dpp' (z:=x) h
def Sim.ren(hS:Sim N B γ st a w)(k k':Nat):∃γ',Sim N B γ' (st.ren k k') a w:=by
 unfold St.ren;split
 ·exact⟨γ,hS⟩
 ·rename_i hne;split
  ·rename_i he;split
   ·rename_i d l hk;have h0:=hS.kill k';have hk0:(st.sub k' .un).ow k=some (d,l):=by rw[J3,if_neg hne];exact hk
    have hks:((st.sub k' .un).ow k).isSome=true:=by rw[hk0];rfl
    have h1:=h0.susK k;have hid:∀b∈γ.f k,Idle B.M γ ((st.sub k' .un).susK k) w b:=fun b hb=>h0.idle_susK hks hb
    have hnof:((st.sub k' .un).susK k).ow k'=none:=by
     show(if k'=k then none else(st.sub k' .un).ow k')=none;split
     ·rfl
     ·rw[J3,if_pos rfl]
    have T:Tr no no no (· = k') γ ((st.sub k' .un).susK k) w (γ.key k' (γ.v k) (γ.f k)) (((st.sub k' .un).susK k).setOw k' d l) w:=by
     refine⟨fun _ _=>rfl,fun x hx=>by simp only[G.key];rw[if_neg hx],fun _ h=>h,fun _ _=>rfl,fun k2 d2 l2 hx _ h=>?_,fun _ _ _ _ _ _ _ _ _ _ _ _ _=>rfl⟩;simp only[St.setOw]at h;rw[if_neg hx]at h;exact⟨d2,l2,h,rfl,fun _=>rfl⟩
    have hv:(γ.key k' (γ.v k) (γ.f k)).v k=γ.v k:=by simp[G.key,hne]
    have hdp:∀x:AV,((x.sub k' .un).dpp k).fr no no no (· = k'):=fun x=>AV.fr_dpp' (AV.fr_sub (y:=.un) trivial)
    have h2:Sim N B (γ.key k' (γ.v k) (γ.f k)) (((st.sub k' .un).susK k).setOw k' d l) a w:=by
     refine h1.layKey (k:=k') (d:=d) (l:=l) hnof rfl rfl rfl (fun x hx=>⟨by simp[G.key,hx],by simp[G.key,hx]⟩) (fun h=>z0D) (fun x=>by simp only[St.setOw]) ?_ ?_ (by simpa[G.key]using(hS.ow k d l hk).1) (by simpa[G.key]using(hS.ow k d l hk).2) (by simpa[G.key]using hid)
     ·intro x cs vs h3 h;simp only[St.susK,St.sub,W7]at h3;obtain⟨cs',_,rfl⟩:=h3;exact h.tr T (A1k (y:=.un) trivial)
     ·intro j v h;exact h.tr T (hdp _)
    refine⟨γ.key k' (γ.v k) (γ.f k), ?_⟩;have hex:∀k2,(((st.sub k' .un).sub k (.ow k')).setOw k' d l).ow k2=(((st.sub k' .un).susK k).setOw k' d l).ow k2:=fun k2=>rfl
    have T2:Tr no no no no (γ.key k' (γ.v k) (γ.f k)) (((st.sub k' .un).susK k).setOw k' d l) w (γ.key k' (γ.v k) (γ.f k)) (((st.sub k' .un).sub k (.ow k')).setOw k' d l) w:=Tr.fewer (fun k2=>.inr (hex k2));have hy:ACOk (γ.key k' (γ.v k) (γ.f k)) (((st.sub k' .un).sub k (.ow k')).setOw k' d l) w (.ow k') ((γ.key k' (γ.v k) (γ.f k)).v k):=by
     simp only[ACOk,hv];refine⟨?_,z10⟩;obtain⟨h3,_⟩:=hS.ow k d l hk;unfold C.Rd at h3;obtain⟨x,c,e,_⟩:=h3;exact⟨x,_,c,e⟩
    refine h2.weak (fun k2=>.inr (hex k2)) (fun x cs' h=>?_) (fun j v h=>AVOk.subst hy (h.tr T2 AV.fr_no));simp only[St.setOw,St.sub,W7]at h;obtain⟨cs,⟨cs0,h3,rfl⟩,rfl⟩:=h;exact⟨E9 k' .un cs0,by simp[St.setOw,St.susK,St.sub,h3],fun vs h=>ACsOk.subst hy (h.tr T2 (fun _ _=>AC.fr_no))⟩
   ·exact⟨γ,hS⟩
  ·split
   ·obtain⟨γ',h,_⟩:=hS.frK k;exact⟨γ',h⟩
   ·exact⟨γ,hS⟩
def ACsOk.set{p:Nat}{x:AC}:∀{l:List AC} {vs:List Value},ACsOk γ st w l vs->(∀y v,l[p]? = some y->ACOk γ st w y v->ACOk γ st w x v)->ACsOk γ st w (l.set p x) vs
 | [],vs,h,_=>by simpa using h
 | y::l,vs,h,hx=>by
   unfold ACsOk at h;obtain⟨v,r,rfl,h1,h2⟩:=h;cases p with
   | zero=>
     simp only[List.set_cons_zero];unfold ACsOk;exact⟨v,r,rfl,hx y v rfl h1,h2⟩
   | succ p=>
     simp only[List.set_cons_succ];unfold ACsOk;exact⟨v,r,rfl,h1,h2.set (fun y v h=>hx y v z05)⟩
def A4M{p:Nat}(h:(E9 k .un l)[p]? = some y)(hl:l[p]? = some (.nl d)):y=.nl d:=by
 rw[U1,q3G,hl]at h;simpa[AC.sub,eq_comm]using h
def Sim.nil(hS:Sim N B γ st a w)(dp:Bool)(hk:k%2=0)(d:List C):∃γ',Sim N B γ' ((st.sub k .un).setOw k (flD dp d) []) a w/\γ'.v k=.slice none 0 0:=by
 have h0:=hS.kill k;have h1:=h0.newKey (d:=flD dp d) (l:=[]) (v:=.slice none 0 0) (fp:=[]) hk (by unfold C.Rd;exact⟨none,0,z0E,z0E,z0E,z0E,z0E⟩) q0Z z0E;exact⟨_,h1,z10⟩
def A3F(hv:γ.v k=.slice none 0 0)(h:ACOk γ st w (.nl d) v):ACOk γ st w (.ow k) v:=by
 simp only[ACOk]at*;rw[hv,h];exact⟨⟨_,_,_,rfl⟩,rfl⟩
def Sim.keyS(hS:Sim N B γ st a w)(dp:Bool)(j p k':Nat):∃γ',Sim N B γ' (st.keyS dp j p k') a w:=by
 unfold St.keyS;split
 ·rename_i ag l hj;split
  ·exact hS.ren _ _
  ·rename_i d hl;split
   ·rename_i he;obtain⟨γ',h1,h2⟩:=hS.nil dp he d;refine⟨γ', ?_⟩;unfold St.nilS;have T:Tr no no no no γ' ((st.sub k' .un).setOw k' (flD dp d) []) w γ' (((st.sub k' .un).setOw k' (flD dp d) []).put j (.v ag ((E9 k' .un l).set p (.ow k')))) w:=Tr.slots rfl;refine h1.weak (fun _=>.inr rfl) (fun x cs h=>⟨cs,h,fun vs h=>h.tr T (fun _ _=>AC.fr_no)⟩) (fun i v h=>?_);simp only[put_sl'];split
    ·rename_i e;subst e;have hj':((st.sub k' .un).setOw k' (flD dp d) []).sl i=.v ag (E9 k' .un l):=by simp[St.setOw,St.sub,hj,AV.sub]
     rw[hj']at h;have h:=h.tr T AV.fr_no;simp only[AVOk]at h ⊢;have key:∀y v,(E9 k' .un l)[p]? = some y->ACOk γ' (((st.sub k' .un).setOw k' (flD dp d) []).put i (.v ag ((E9 k' .un l).set p (.ow k')))) w y v->ACOk γ' (((st.sub k' .un).setOw k' (flD dp d) []).put i (.v ag ((E9 k' .un l).set p (.ow k')))) w (.ow k') v:=by
      intro y v hy h;rw[A4M hy hl]at h;exact A3F h2 h
     unfold VOk at h ⊢;cases ag with
     | true=>obtain⟨vs,e,h⟩:=h;exact⟨vs,e,h.set key⟩
     | false=>
       obtain⟨x,e,h⟩:=h;rw[e]at key ⊢;cases p with
       | zero=>exact⟨_,rfl,key x v rfl h⟩
       | succ p=>exact⟨x,z0E,h⟩
    ·exact h.tr T AV.fr_no
   ·exact⟨γ,hS⟩
  ·exact⟨γ,hS⟩
 ·exact⟨γ,hS⟩
def Sim.keyB(hS:Sim N B γ st a w)(dp:Bool)(x p k':Nat):∃γ',Sim N B γ' (st.keyB dp x p k') a w:=by
 unfold St.keyB;split
 ·rename_i l hx;split
  ·exact hS.ren _ _
  ·rename_i d hl;split
   ·rename_i he;obtain⟨γ',h1,h2⟩:=hS.nil dp he d;refine⟨γ', ?_⟩;unfold St.nilB;have T:Tr no no no no γ' ((st.sub k' .un).setOw k' (flD dp d) []) w γ' (((st.sub k' .un).setOw k' (flD dp d) []).setBx x ((E9 k' .un l).set p (.ow k'))) w:=Tr.slots rfl;refine h1.weak (fun _=>.inr rfl) (fun y cs h=>?_) (fun i v h=>h.tr T AV.fr_no);simp only[St.setBx]at h;split at h
    ·rename_i e;subst e;obtain rfl:=Option.some.inj h;refine⟨E9 k' .un l,by simp[St.setOw,St.sub,hx],fun vs h=>?_⟩;exact(h.tr T (fun _ _=>AC.fr_no)).set (fun z v hz hh=>by rw[A4M hz hl]at hh;exact A3F h2 hh)
    ·exact⟨cs,h,fun vs h=>h.tr T (fun _ _=>AC.fr_no)⟩
   ·exact⟨γ,hS⟩
  ·exact⟨γ,hS⟩
 ·exact⟨γ,hS⟩
def Sim.keys(dp:Bool):∀{l:List (Bool×Nat×Nat×Nat)} {γ:G} {st:St},Sim N B γ st a w->∃γ',Sim N B γ' (st.keys dp l) a w
 | [],γ,st,hS=>⟨γ,hS⟩
 | (b,j,p,k')::l,γ,st,hS=>by
   simp only[St.keys];cases b with
   | true=>
     obtain⟨γ1,h1⟩:=hS.keyB dp j p k';exact Sim.keys dp h1
   | false=>
     obtain⟨γ1,h1⟩:=hS.keyS dp j p k';exact Sim.keys dp h1
end
def I2(tp dp:Bool)(st:St):List AC->Option (List C×List Nat)
 | []=>some ([],[])
 | .c x::l=>match I2 tp dp st l with
   | some (cs,ks)=>some (x::cs,ks)
   | none=>none
 | .nl d::l=>match I2 tp dp st l with
   | some (cs,ks)=>some (.sl tp (flD dp d) []::cs,ks)
   | none=>none
 | .ow k::l=>match st.ow k,I2 tp dp st l with
   | some (d,rows),some (cs,ks)=>if ks.contains k then none else some (.sl true d rows::cs,k::ks)
   | _,_=>none
 | .cl _ _::_=>none
 | .cx _ _::_=>none
 | .un::l=>match I2 tp dp st l with
   | some (cs,ks)=>some (.un::cs,ks)
   | none=>none
def A1H(tp dp:Bool)(st:St):List (Bool×List AC)->Option (List V×List Nat)
 | []=>some ([],[])
 | (ag,l)::r=>match I2 tp dp st l,A1H tp dp st r with
   | some (cs,ks),some (vs,ks')=>if ks.all (fun k=>!ks'.contains k)then some ((ag,cs)::vs,ks++ks')else none
   | _,_=>none
section
def I3{tp dp:Bool}(hm:Mem B γ st w):∀{l:List AC} {cs:List C} {ks:List Nat} {vs:List Value},I2 tp dp st l=some (cs,ks)->ACsOk γ st w l vs->
  ∃fp,C.RdVals γ.F w cs vs fp/\fp.Nodup/\(∀b∈fp,∃k∈ks,b∈γ.f k)/\∀k∈ks,(st.ow k).isSome=true
 | [],cs,ks,vs,h,hv=>by
   simp only[I2,K1]at h;obtain⟨rfl,rfl⟩:=h;unfold ACsOk at hv;subst hv;exact⟨[],by unfold C.RdVals;exact⟨rfl,rfl⟩,q0Z,z0E,z0E⟩
 | .c x::l,cs,ks,vs,h,hv=>by
   simp only[I2]at h;split at h
   ·rename_i cs' ks' h1;simp only[K1]at h;obtain⟨rfl,rfl⟩:=h;unfold ACsOk at hv;obtain⟨v,r,rfl,h2,h3⟩:=hv;obtain⟨fp,g1,g2,g3,g4⟩:=I3 hm h1 h3;exact⟨fp,by unfold C.RdVals;exact⟨v,r,[],fp,rfl,rfl,h2,g1⟩,g2,g3,g4⟩
   ·exact absurd h (by simp)
 | .nl d::l,cs,ks,vs,h,hv=>by
   simp only[I2]at h;split at h
   ·rename_i cs' ks' h1;simp only[K1]at h;obtain⟨rfl,rfl⟩:=h;unfold ACsOk at hv;obtain⟨v,r,rfl,h2,h3⟩:=hv;obtain⟨fp,g1,g2,g3,g4⟩:=I3 hm h1 h3;simp only[ACOk]at h2;refine⟨fp,by unfold C.RdVals;exact⟨v,r,[],fp,rfl,rfl,by unfold C.Rd;exact⟨none,0,h2,z0E,z0E,z0E,by cases tp<;>simp⟩,g1⟩,g2,g3,g4⟩
   ·exact absurd h (by simp)
 | .ow k::l,cs,ks,vs,h,hv=>by
   simp only[I2]at h;split at h
   ·rename_i d rows cs' ks' ho h1;split at h
    ·exact absurd h (by simp)
    ·rename_i hk;simp only[K1]at h;obtain⟨rfl,rfl⟩:=h;have hk:k∉ks':=by simpa using hk
     unfold ACsOk at hv;obtain⟨v,r,rfl,h2,h3⟩:=hv;obtain⟨fp,g1,g2,g3,g4⟩:=I3 hm h1 h3;have hlive:(st.ow k).isSome=true:=by simp[ho]
     simp only[ACOk]at h2;have hv:=h2.2;subst hv;obtain⟨hrd,hnd⟩:=hm.ow k d rows ho;refine⟨γ.f k++fp,by unfold C.RdVals;exact⟨_,r,_,fp,rfl,rfl,hrd,g1⟩, ?_, ?_, ?_⟩
     ·refine q0Q.2 ⟨hnd,g2, ?_⟩;intro x hx y hy e;subst e;obtain⟨k',hk',hb⟩:=g3 x hy;exact hm.owI k k' hlive (g4 k' hk') (fun e=>hk (e▸hk')) x hx hb
     ·intro b hb;rcases V0.1 hb with hb|hb
      ·exact⟨k,z0E,hb⟩
      ·obtain⟨k',h1,h2⟩:=g3 b hb;exact⟨k',by simp[h1],h2⟩
     ·intro k' hk';rcases q0B.1 hk' with rfl|hk'
      ·exact hlive
      ·exact g4 k' hk'
   ·exact absurd h (by simp)
 | .cl _ _::l,cs,ks,vs,h,hv=>by simp[I2]at h
 | .un::l,cs,ks,vs,h,hv=>by
   simp only[I2]at h;split at h
   ·rename_i cs' ks' h1;simp only[K1]at h;obtain⟨rfl,rfl⟩:=h;unfold ACsOk at hv;obtain⟨v,r,rfl,h2,h3⟩:=hv;obtain⟨fp,g1,g2,g3,g4⟩:=I3 hm h1 h3;exact⟨fp,by unfold C.RdVals;exact⟨v,r,[],fp,rfl,rfl,by unfold C.Rd;exact⟨rfl,h2⟩,g1⟩,g2,g3,g4⟩
   ·exact absurd h z0E
def A4I(hm:Mem B γ st w){cs:List C}(h:I2 tp dp st l=some (cs,ks))(hv:VOk γ st w ag l v):
  ∃fp,VRd γ.F w (ag,cs) v fp/\fp.Nodup/\(∀b∈fp,∃k∈ks,b∈γ.f k)/\∀k∈ks,(st.ow k).isSome=true:=by
 unfold VOk at hv;cases ag with
 | true=>
   obtain⟨vs,e,hv⟩:=hv;obtain⟨fp,g1,g2,g3,g4⟩:=I3 hm h hv;exact⟨fp,⟨vs,e,g1⟩,g2,g3,g4⟩
 | false=>
   obtain⟨c,rfl,hv⟩:=hv;obtain⟨fp,g1,g2,g3,g4⟩:=I3 hm h (vs:=[v]) z1A;have hl:=RdVals.length g1
   match cs,hl with
   | [c'],_=>
     unfold C.RdVals at g1;obtain⟨v',r,f1,f2,e1,e2,e3,e4⟩:=g1;simp only[V4]at e1;obtain⟨rfl,rfl⟩:=e1;unfold C.RdVals at e4;obtain⟨_,rfl⟩:=e4;rw[q0A]at e2;subst e2;exact⟨_,⟨c',rfl,e3⟩,g2,g3,g4⟩
def A3I{tp dp:Bool}(hm:Mem B γ st w):∀{l:List (Bool×List AC)} {xs:List V} {ks:List Nat} {vs:List Value},A1H tp dp st l=some (xs,ks)->TpOk γ st w l vs->
  ∃fp,VsRd γ.F w xs vs fp/\fp.Nodup/\(∀b∈fp,∃k∈ks,b∈γ.f k)/\∀k∈ks,(st.ow k).isSome=true
 | [],xs,ks,vs,h,hv=>by
   simp only[A1H,K1]at h;obtain⟨rfl,rfl⟩:=h;unfold TpOk at hv;subst hv;exact⟨[],by unfold VsRd;exact⟨rfl,rfl⟩,q0Z,z0E,z0E⟩
 | (ag,c)::l,xs,ks,vs,h,hv=>by
   simp only[A1H]at h;split at h
   ·rename_i cs k1 vs' k2 h1 h2;split at h
    ·rename_i hd;simp only[K1]at h;obtain⟨rfl,rfl⟩:=h;unfold TpOk at hv;obtain⟨v,r,rfl,g1,g2⟩:=hv;obtain⟨f1,a1,a2,a3,a4⟩:=A4I hm h1 g1;obtain⟨f2,b1,b2,b3,b4⟩:=A3I hm h2 g2;refine⟨f1++f2,by unfold VsRd;exact⟨v,r,f1,f2,rfl,rfl,a1,b1⟩, ?_, ?_, ?_⟩
     ·refine q0Q.2 ⟨a2,b2, ?_⟩;intro x hx y hy e;subst e;obtain⟨k,hk,hb⟩:=a3 x hx;obtain⟨k',hk',hb'⟩:=b3 x hy;have hne:k≠k':=by
       intro e;subst e;have:=q0I.1 hd k hk;simp at this;exact this hk'
      exact hm.owI k k' (a4 k hk) (b4 k' hk') hne x hb hb'
     ·intro b hb;rcases V0.1 hb with hb|hb
      ·obtain⟨k,hk,h⟩:=a3 b hb;exact⟨k,V0.2 (.inl hk),h⟩
      ·obtain⟨k,hk,h⟩:=b3 b hb;exact⟨k,V0.2 (.inr hk),h⟩
     ·intro k hk;rcases V0.1 hk with hk|hk
      ·exact a4 k hk
      ·exact b4 k hk
    ·exact absurd h (by simp)
   ·exact absurd h z0E
end
section
def E4{o:Obj}(h:b<w.heap.size):(w.alloc o).heap[b]? = w.heap[b]?:=by
 show(w.heap.push o)[b]? = _;rw[Array.getElem?_push,if_neg z0D]
def Sim.newKeyT{w':World}{l:List (List C)}(hS:Sim N B γ (s.sub k .un) a w)(hk:k%2=0)(hT:Turn (Idle B.M γ (s.sub k .un) w) w w')
  (hrd:C.Rd γ.F w' (.sl true d l) v fp) (hnd:fp.Nodup) (hfp:∀b∈fp,b<w'.heap.size/\(w.heap.size<=b\/Idle B.M γ (s.sub k .un) w b)):
  Sim N B (γ.key k v fp) ((s.sub k .un).setOw k d l) a w':=by
 obtain⟨h1,h2⟩:=hS.world (F':=γ.F) hT (fun _ h=>h) (fun _ h=>.inl h) (fun b hb=>q1O (hS.Fw b hb) hT.sz);refine h1.newKey hk hrd hnd (fun b hb=>?_);obtain⟨g1,g2⟩:=hfp b hb;rcases g2 with g2|g2
 ·exact h2 b (fun hF=>by have:=hS.Fw b hF;omega) (.inr ⟨g2,g1⟩)
 ·exact h2 b g2.f (.inl g2)
def U6{ks:List K}(h:O3 P t=some ks):∃i z,P.info? t=some i/\i.zero=some z/\F6 ks z.cells.toList=true/\i.size=ks.length:=by
 unfold O3 at h;split at h
 ·rename_i ks' i hk hi;split at h
  ·rename_i v hz;split at h
   ·rename_i hc;simp only[W0]at h;subst h;simp only[W3]at hc;exact⟨i,v,hi,hz,hc.1,by simpa using hc.2⟩
   ·exact absurd h (by simp)
  ·exact absurd h (by simp)
 ·exact absurd h z0E
def A2V{F:Nat->Prop}:∀{ks:List K} {d:List C} {vs:List Value},kCs ks=some d->F6 ks vs=true->C.RdVals F w d vs []
 | [],d,vs,h,hz=>by
   simp only[kCs,W0]at h;subst h;cases vs with
   | nil=>unfold C.RdVals;exact⟨rfl,rfl⟩
   | cons v vs=>simp[F6]at hz
 | k::ks,d,vs,h,hz=>by
   simp only[kCs]at h;cases vs with
   | nil=>simp[F6]at hz
   | cons v vs=>
     simp only[F6,W3]at hz;split at h
     ·rename_i c cs h1 h2;simp only[W0]at h;subst h;unfold C.RdVals;refine⟨v,vs,[],[],rfl,rfl, ?_,A2V h2 hz.2⟩;have hz1:=hz.1;unfold A4P at hz1;split at hz1
      ·simp only[kC,W0]at h1;subst h1;simp[C.Rd]
      ·rename_i k k';simp only[kC,W0]at h1;subst h1;have:k=k':=by simpa using hz1
       subst this;simp only[C.Rd,q0K,q0M];cases k<;>decide
      ·rename_i s;simp only[kC,W0]at h1;subst h1;simp only[C.Rd,q0K,q1R,q2D];have:s.data.toList=[]:=by simpa using hz1
       cases s with
       | mk d=>simp at this;simp[this]
      ·simp only[kC,W0]at h1;subst h1;unfold C.Rd;exact⟨none,0,rfl,z0E,z0E,z0E,rfl,.inl rfl⟩
      ·simp[kC]at h1
      ·exact absurd hz1 (by decide)
     ·exact absurd h z0E
def A1A:∀{d:List C},(flL d).length=d.length
 | []=>rfl
 | c::d=>by simp[flL,A1A (d:=d)]
def A1z:(flD dp d).length=d.length:=by
 cases dp
 ·rfl
 ·exact A1A
def kCs_rdF{F:Nat->Prop}{dp:Bool}:∀{ks:List K} {d:List C} {vs:List Value},kCs ks=some d->F6 ks vs=true->C.RdVals F w (flD dp d) vs []:=by
 intro ks d vs h hz;cases dp with
 | false=>exact A2V h hz
 | true=>
   simp only[flD,W8]
   induction ks generalizing d vs with
   | nil=>
     simp only[kCs,W0]at h;subst h;cases vs with
     | nil=>unfold flL C.RdVals;exact⟨rfl,rfl⟩
     | cons v vs=>simp[F6]at hz
   | cons k ks ih=>
     have hrd:=A2V (w:=w) (F:=F) h hz;simp only[kCs]at h;cases vs with
     | nil=>simp[F6]at hz
     | cons v vs=>
       simp only[F6,W3]at hz;split at h
       ·rename_i c cs h1 h2;simp only[W0]at h;subst h;unfold C.RdVals at hrd;obtain⟨v',r,f1,f2,e1,e2,e3,e4⟩:=hrd;simp only[V4]at e1;obtain⟨rfl,rfl⟩:=e1;obtain⟨rfl,rfl⟩:=q1P.1 e2.symm;unfold flL C.RdVals;refine⟨v,vs,[],[],rfl,rfl, ?_,ih h2 hz.2⟩;cases c with
        | sl u d l=>
          have hz1:=hz.1;unfold A4P at hz1;cases k<;>simp only[kC,W0,reduceCtorEq,C.sl.injEq]at h1;obtain⟨rfl,rfl,rfl⟩:=h1;have hv:v=.slice none 0 0:=by
           match v,hz1 with
           | .slice none 0 0,_=>rfl
          unfold C.fl C.Rd;exact⟨none,0,hv,z0E,z0E,z0E,.inl ⟨rfl,rfl⟩⟩
        | _=>exact e3
       ·exact absurd h z0E
def A2A(z:Array Value)(n:Nat):(madeCells z ((n+1)*z.size)).toList=z.toList++(madeCells z (n*z.size)).toList:=by
 unfold madeCells;simp only[Array.toList_map,Array.toList_range];rw[q4W,q4D,List.range_add,q1B]
 congr 1
 ·apply q4Q
  ·simp
  ·intro i h1 h2;simp only[q0C,List.length_range]at h1;simp[Nat.mod_eq_of_lt h1,h1]
 ·rw[q4L];apply q3C;intro i _;simp
def A4G{F:Nat->Prop}{z:Array Value}{d:List C}(h:C.RdVals F w d z.toList []):∀n,C.RdRows F w (List.replicate n d) (madeCells z (n*z.size)).toList []
 | 0=>by simp[madeCells,C.RdRows]
 | n+1=>by
   rw[A2A,q5P];unfold C.RdRows;exact⟨_,_,[],[],rfl,rfl,h,A4G h n⟩
def Y7{c:Array Value}(o:Nat):(w.alloc (.cells c t)).cell? ⟨w.heap.size,o,none⟩=c[o]?:=by
 unfold World.cell?;rw[show(w.alloc (.cells c t)).heap[w.heap.size]? = some (.cells c t)from heap_alloc_new w _];simp
def A2e(S:Nat->Prop)(o:Obj):Turn S w (w.alloc o):=
 ⟨fun b hb _=>E4 hb,z0E,rfl,Tp.of rfl rfl,rfl⟩
def make_rd{z:Array Value}{e:TypeId}{c:Nat}(hF:∀b,F b->b<w.heap.size)(h:C.RdVals F w d z.toList [])(hnc:n<=c)(hc:c<=maxLen):
  C.Rd F (w.alloc (.cells (madeCells z (c*z.size)) e)) (.sl true d (List.replicate n d)) (.slice (some ⟨w.heap.size,0,none⟩) n c) [w.heap.size]:=by
 have hl:z.size=d.length:=by simpa using RdVals.length h
 have hsame:Q2 w (w.alloc (.cells (madeCells z (c*z.size)) e)) F:=fun b hb=>E4 (hF b hb)
 unfold C.Rd;refine⟨some ⟨w.heap.size,0,none⟩,c,z0E,by simpa using hnc,hc, ?_, ?_⟩
 ·intro r hr;rw[(List.mem_replicate.1 hr).2]
 ·refine .inr ⟨w.heap.size,0,(madeCells z (n*z.size)).toList,[],rfl,rfl, ?_, ?_,C.RdRows.mono (fun _ h=>h) hsame _ _ _ (fun b hb=>by cases hb) (A4G h n)⟩
  ·exact⟨_,e,heap_alloc_new w _,by rw[size_madeCells,hl];omega⟩
  ·intro j hj;rw[Y7];have hj':j<n*z.size:=by simpa[size_madeCells]using hj
   have hj2:j<c*z.size:=q1O hj' (q1S _ hnc);rw[q3O];simp[madeCells,hj',hj2]
def killAll:St->List Nat->St
 | st,[]=>st
 | st,k::ks=>killAll (st.sub k .un) ks
def A1D:∀{ks:List Nat} {st:St} {k:Nat},k∉ks->(killAll st ks).ow k=st.ow k
 | [],st,k,h=>rfl
 | k'::ks,st,k,h=>by
   simp only[killAll];rw[A1D (fun h'=>h (by simp[h'])),J3,if_neg (fun e=>h (by simp[e]))]
def Sim.killAll:∀{ks:List Nat} {st:St},Sim N B γ st a w->Sim N B γ (killAll st ks) a w
 | [],st,h=>h
 | k::ks,st,h=>Sim.killAll (ks:=ks) (h.kill k)
def Idle.killAll:∀{ks:List Nat} {st:St} {b:Nat},Idle B.M γ st w b->Idle B.M γ (Aw.killAll st ks) w b
 | [],st,b,h=>h
 | k::ks,st,b,h=>Idle.killAll (ks:=ks) (h.kill k .un)
def Sim.idles:∀{ks:List Nat} {st:St} {k b:Nat},Sim N B γ st a w->k∈ks->(st.ow k).isSome=true->b∈γ.f k->Idle B.M γ (Aw.killAll st ks) w b
 | [],st,k,b,hS,hk,_,_=>by cases hk
 | k'::ks,st,k,b,hS,hk,hs,hb=>by
   simp only[Aw.killAll];by_cases e:k=k'
   ·subst e;exact(hS.idle hs hb).killAll
   ·refine Sim.idles (hS.kill k') (by simpa[e]using hk) ?_ hb;rw[J3,if_neg e];exact hs
def Sim.storeOwn{r o:Nat}{cs:List C}{vs:List Value}(hS:Sim N B γ st a w)(hk:st.ow k=some (d,rows))(hr:r<rows.length)(ho:o+cs.length<=d.length)
  (hcs:I2 tp dp st l=some (cs,ks)) (hkk:k∉ks) (hv:ACsOk γ st w l vs):
  ∃b off cap c e,γ.v k=.slice (some ⟨b,off,none⟩) rows.length cap/\w.heap[b]? = some (.cells c e (0,0))/\off+(r*d.length+o)+vs.length<=c.size/\
   ∃γ',Sim N B γ' (((Aw.killAll st ks).dip k).setOw k d (rows.set r (I4 (rows.getD r []) o cs))) a (w.setRow b (c.toList.take (off+(r*d.length+o))++vs++c.toList.drop (off+(r*d.length+o)+vs.length)).toArray):=by
 obtain⟨fn,n1,n2,n3,n4⟩:=I3 hS.toMem hcs hv;obtain⟨hrd,hnd⟩:=hS.ow k d rows hk;have hks:(st.ow k).isSome=true:=by rw[hk];rfl
 unfold C.Rd at hrd;obtain⟨ad,cap,e1,e2,e3,e4,e5⟩:=hrd;simp only[W8]at e5;rcases e5 with⟨h0,_⟩|⟨b,off,V,fp',rfl,hf,⟨c,e,hh,hsz⟩,hat,hrows⟩
 ·omega
 ·have hVl:=A6 e4 hrows;have hle:rows.length*d.length<=cap*d.length:=q1S _ e2;obtain⟨pre,post,hc,hpre⟩:=A3o hat hh z0D;obtain⟨va,vx,vb,fa,fx,fb,rfl,rfl,k1,k2,k3⟩:=A0S hrows hr;have hxr:(rows.getD r []).length=d.length:=e4 _ (A2w hr);have hva:va.length=r*d.length:=by
   have:=A6 (fun x hx=>e4 x (q1L hx)) k1;rw[this,V1];congr 1;omega
  have hvx:vx.length=d.length:=by rw[RdVals.length k2,hxr]
  have hvs:vs.length=cs.length:=RdVals.length n1;obtain⟨f1,f23,rfl,p1,p23⟩:=Q0 o k2;obtain⟨f2,f3,rfl,p2,p3⟩:=Q0 cs.length p23;rw[q2S]at p3;rw[q2S]at p3;have hbk:b∈γ.f k:=by rw[hf];simp
  have hbF:¬γ.F b:=(hS.owM k hks b hbk).2.1;have hdec:c.toList=(pre++(va++vx.take o))++((vx.drop o).take vs.length++(vx.drop (o+vs.length)++(vb++post))):=by
   rw[hc];have:vx=vx.take o++((vx.drop o).take vs.length++vx.drop (o+vs.length)):=by
    rw[<-q2S,q1X,q1X]
   conv=>lhs;rw[this]
   simp only[q0X]
  have hpl:(pre++(va++vx.take o)).length=off+(r*d.length+o):=by simp[hpre,hva,hvx];omega
  have htk:c.toList.take (off+(r*d.length+o))=pre++(va++vx.take o):=by rw[hdec,<-hpl,q4P]
  have hml:((vx.drop o).take vs.length).length=vs.length:=by simp[hvx];omega
  have hdr:c.toList.drop (off+(r*d.length+o)+vs.length)=vx.drop (o+vs.length)++(vb++post):=by
   rw[hdec,<-hpl,<-q2S,q4G]
   conv=>lhs;arg 1;rw[<-hml]
   rw[q4G]
  refine⟨b,off,cap,c,e,e1,hh, ?_,{ γ with f:=fun k'=>if k'=k then b::(fa++((f1++(fn++f3))++fb))else γ.f k' }, ?_⟩
  ·have:c.toList.length=c.size:=by simp
   rw[<-this,hdec];simp only[V6,hml];simp only[V6]at hpl;omega
  ·rw[htk,hdr];generalize hcn:(pre++(va++vx.take o)++vs++(vx.drop (o+vs.length)++(vb++post))).toArray=c';have hc':c'.toList=pre++((va++((vx.take o++(vs++vx.drop (o+vs.length)))++vb))++post):=by rw[<-hcn];simp
   have hh':(w.setRow b c').heap[b]? = some (.cells c' e (0,0)):=setRow_heap w b c c' e (0,0) hh;have hother:∀x,x≠b->(w.setRow b c').heap[x]? = w.heap[x]?:=fun x hne=>setRow_other w _ x _ hne
   have hsize:(w.setRow b c').heap.size=w.heap.size:=by simp[World.setRow]
   have hS':=hS.killAll (ks:=ks);have hk':(Aw.killAll st ks).ow k=some (d,rows):=by rw[A1D hkk];exact hk
   have hT:Turn (fun x=>x∈γ.f k\/Idle B.M γ (Aw.killAll st ks) w x) w (w.setRow b c'):=
    ⟨fun x _ hn=>hother x (fun e=>hn (.inl (e▸hbk))),by rw[hsize];exact q0F _,rfl,Tp.of rfl rfl,rfl⟩
   rw[hf]at hnd;have hdis:∀x∈fn,x∉γ.f k:=by
    intro x hx hx2;obtain⟨k',g1,g2⟩:=n3 x hx;exact hS.owI k' k (n4 k' g1) hks (fun e=>hkk (e▸g1)) x g2 hx2
   have hbn:b∉fn:=fun h=>hdis b h hbk
   have hnd':(b::(fa++((f1++(fn++f3))++fb))).Nodup:=by
    have hsub:(b::(fa++((f1++f3)++fb))).Sublist (b::(fa++((f1++(f2++f3))++fb))):=
     List.Sublist.cons_cons _ (List.Sublist.append (List.Sublist.refl _) (List.Sublist.append (List.Sublist.append (List.Sublist.refl _) (List.sublist_append_right _ _)) (List.Sublist.refl _)))
    have hnd2:=List.Nodup.sublist hsub hnd;have hdis2:∀x∈fn,x∉(b::(fa++((f1++f3)++fb))):=fun x hx h=>hdis x hx (by rw[hf];exact hsub.subset h)
    have hperm:(b::(fa++((f1++(fn++f3))++fb))).Perm (fn++(b::(fa++((f1++f3)++fb)))):=by
     rw[List.perm_iff_count];intro x;simp only[List.count_cons,List.count_append];omega
    refine hperm.nodup_iff.2 (q0Q.2 ⟨n2,hnd2, ?_⟩);intro x hx y hy e;subst e;exact hdis2 x hx hy
   have hsm:∀g:List Nat,b∉g->Q2 w (w.setRow b c') (·∈g):=fun g hg x hx=>hother x (fun e=>hg (e▸hx))
   have hsF:Q2 w (w.setRow b c') γ.F:=fun x hx=>hother x (fun e=>hbF (e▸hx))
   have hbnot:b∉fa++((f1++(f2++f3))++fb):=(q1Q.1 hnd).1;simp only[V0,not_or]at hbnot;have newrow:=X4 p1 (X4 n1 p3);have newrow':=C.RdVals.mono (F':=γ.F) (fun _ h=>h) hsF _ _ _ (hsm _ (by simp only[V0,not_or];exact⟨hbnot.2.1.1,hbn,hbnot.2.1.2.2⟩)) newrow;have k1':=C.RdRows.mono (F':=γ.F) (fun _ h=>h) hsF _ _ _ (hsm _ hbnot.1) k1;have k3':=C.RdRows.mono (F':=γ.F) (fun _ h=>h) hsF _ _ _ (hsm _ hbnot.2.2) k3;have hset:rows.set r (I4 (rows.getD r []) o cs)=rows.take r++(I4 (rows.getD r []) o cs::rows.drop (r+1)):=List.set_eq_take_append_cons_drop.trans (if_pos hr);have hrepl:(I4 (rows.getD r []) o cs).length=d.length:=by unfold I4;rw[V6,V6,V1,q2A,hxr];omega
   refine hS'.turnKey hk' hT rfl ?_ hnd' ?_
   ·rw[e1];unfold C.Rd;refine⟨_,cap,z0E,by simpa using e2,e3, ?_,.inr ⟨b,off,_,_,rfl,rfl,⟨c',e,hh', ?_⟩,A0B hh' hc' hpre, ?_⟩⟩
    ·intro x hx;rw[hset]at hx;rcases V0.1 hx with hx|hx
     ·exact e4 x (q1L hx)
     ·rcases q0B.1 hx with rfl|hx
      ·exact hrepl
      ·exact e4 x (q2Z hx)
    ·have h1:c'.size=c.size:=by
      have h2:c'.toList.length=c.toList.length:=by
       rw[hc',hdec];simp only[V6,hml];omega
      simpa using h2
     omega
    ·rw[hset];refine O9 k1' ?_;unfold C.RdRows;refine⟨_,vb,_,fb,rfl,rfl, ?_,k3'⟩;unfold I4;rw[hvs];exact newrow'
   ·intro x hx;have hlt:∀y,y∈γ.f k->(y∈γ.f k\/Idle B.M γ (Aw.killAll st ks) w y):=fun y hy=>.inl hy
    by_cases hxn:x∈fn
    ·obtain⟨k',g1,g2⟩:=n3 x hxn;exact .inr (hS.idles g1 (n4 k' g1) g2)
    ·refine hlt x ?_;rw[hf];simp only[q0B,V0]at hx ⊢;rcases hx with h|h|(h|h|h)|h
     ·exact .inl h
     ·exact .inr (.inl h)
     ·exact .inr (.inr (.inl (.inl h)))
     ·exact absurd h hxn
     ·exact .inr (.inr (.inl (.inr (.inr h))))
     ·exact .inr (.inr (.inr h))
def Y3(m:Nat):Nat->List C->List (List C)
 | 0,_=>[]
 | n+1,cs=>cs.take m::Y3 m n (cs.drop m)
def X8(m:Nat):∀(n:Nat) (cs:List C),(Y3 m n cs).length=n
 | 0,_=>rfl
 | n+1,cs=>by simp[Y3,X8 m n]
def A1w(m:Nat):∀(n:Nat) (cs:List C),cs.length=n*m->∀r∈Y3 m n cs,r.length=m
 | 0,cs,_,r,hr=>by simp[Y3]at hr
 | n+1,cs,h,r,hr=>by
   simp only[Y3,q0B]at hr;rw[q4W]at h;rcases hr with rfl|hr
   ·rw[V1];omega
   ·exact A1w m n (cs.drop m) (by rw[q2A];omega) r hr
def A3p{F:Nat->Prop}(m:Nat):∀(n:Nat) (cs:List C) (vs:List Value) (fp:List Nat),cs.length=n*m->C.RdVals F w cs vs fp->C.RdRows F w (Y3 m n cs) vs fp
 | 0,cs,vs,fp,h,hr=>by
   have:cs=[]:=q0L.1 z0D;subst this;unfold C.RdVals at hr;simp only[Y3];unfold C.RdRows;exact hr
 | n+1,cs,vs,fp,h,hr=>by
   rw[q4W]at h;obtain⟨f1,f2,rfl,h1,h2⟩:=Q0 m hr;simp only[Y3];unfold C.RdRows;exact⟨vs.take m,vs.drop m,f1,f2,(q1X _ _).symm,rfl,h1,A3p m n (cs.drop m) _ _ (by rw[q2A];omega) h2⟩
def A4F{z:Array Value}{l:List AC}(h:ACsOk γ st w l z.toList):∀n,ACsOk γ st w (List.replicate n l).flatten (madeCells z (n*z.size)).toList
 | 0=>by simp[madeCells,ACsOk]
 | n+1=>by
   rw[A2A,q5P,List.flatten_cons];exact h.append (A4F h n)
def Sim.lay{dst m:Nat}{cs:List C}{vs:List Value}(hS:Sim N B γ st a w)(hcs:I2 tp dp st l=some (cs,ks))(hv:ACsOk γ st w l vs)(hd:d.length=m)(hl:cs.length=n*m)(hn:n<=maxLen)(hk2:dst%2=0):
  ∃γ',Sim N B γ' (((Aw.killAll st ks).sub dst .un).setOw dst d (Y3 m n cs)) a (w.alloc (.cells vs.toArray e))/\γ'.v dst=.slice (some ⟨w.heap.size,0,none⟩) n n:=by
 obtain⟨fn,n1,n2,n3,n4⟩:=I3 hS.toMem hcs hv;have hS':=(hS.killAll (ks:=ks)).kill dst;have hlt:∀b∈fn,b<w.heap.size:=fun b hb=>by
  obtain⟨k,g1,g2⟩:=n3 b hb;exact(hS.owM k (n4 k g1) b g2).2.2.1
 have hF:Q2 w (w.alloc (.cells vs.toArray e)) γ.F:=fun b hb=>E4 (hS.Fw b hb)
 have hvl:vs.length=n*m:=by rw[RdVals.length n1,hl]
 refine⟨γ.key dst (.slice (some ⟨w.heap.size,0,none⟩) n n) (w.heap.size::fn),hS'.newKeyT hk2 (A2e _ _) ?_ ?_ ?_,z10⟩
 ·unfold C.Rd;refine⟨_,n,by rw[X8],by rw[X8];exact q0F _,hn, ?_,.inr ⟨w.heap.size,0,vs,fn,rfl,rfl,⟨_,e,heap_alloc_new w _,by simp[hvl,hd]⟩, ?_, ?_⟩⟩
  ·rw[hd];exact A1w m n cs hl
  ·intro j hj;rw[Y7,q3O];simp[hj]
  ·exact C.RdRows.mono (fun _ h=>h) hF _ _ _ (fun b hb=>E4 (hlt b hb)) (A3p m n cs vs fn hl n1)
 ·refine q1Q.2 ⟨fun h=>?_,n2⟩;have:=hlt _ h;omega
 ·intro b hb;rcases q0B.1 hb with rfl|hb
  ·exact⟨z0E,.inl (q0F _)⟩
  ·obtain⟨k,g1,g2⟩:=n3 b hb;refine⟨?_,.inr ((hS.idles g1 (n4 k g1) g2).kill dst .un)⟩;have:=hlt b hb;simp;omega
def A3d(w:World)(x:Addr)(v:Value):(w.setCell x v).heap.size=w.heap.size:=by simp[World.setCell]
def A2h(w:World)(x:Addr)(v:Value)(h:b≠x.block):(w.setCell x v).heap[b]? = w.heap[b]?:=by
 simp[World.setCell,q5E,Ne.symm h]
def A3c(w:World){o:Nat}{c:Array Value}{fr:Nat×Nat}(v:Value)(h:w.heap[b]? = some (.cells c e fr)):(w.setCell ⟨b,o,none⟩ v).heap[b]? = some (.cells (c.setIfInBounds o v) e fr):=by
 simp[World.setCell,q5E,h]
def Z8(b:Nat):∀(vs:List Value) (o:Nat) (w:World),(∀x,x≠b->(w.setCells b o vs).heap[x]? = w.heap[x]?)/\(w.setCells b o vs).heap.size=w.heap.size/\(w.setCells b o vs).os=w.os/\Tp w (w.setCells b o vs)/\(w.setCells b o vs).output=w.output
 | [],o,w=>⟨fun _ _=>rfl,rfl,rfl,Tp.of rfl rfl,rfl⟩
 | v::vs,o,w=>by
   obtain⟨h1,h2,h3,h4,h5⟩:=Z8 b vs (o+1) (w.setCell ⟨b,o,none⟩ v);unfold World.setCells;exact⟨fun x hx=>(h1 x hx).trans (A2h w _ _ hx),h2.trans (A3d _ _ _),h3,⟨h4.eq,h4.le⟩,h5⟩
def A0l(b:Nat){e:TypeId}{fr:Nat×Nat}:∀(vs:List Value) (o:Nat) (w:World) (c:Array Value),w.heap[b]? = some (.cells c e fr)->o+vs.length<=c.size->
  (w.setCells b o vs).heap[b]? = some (.cells (c.toList.take o++(vs++c.toList.drop (o+vs.length))).toArray e fr)
 | [],o,w,c,h,_=>by unfold World.setCells;rw[h];simp
 | v::vs,o,w,c,h,hl=>by
   simp only[V9]at hl;unfold World.setCells;have:=A0l b vs (o+1) (w.setCell ⟨b,o,none⟩ v) (c.setIfInBounds o v) (A3c w v h) z0X;rw[this]
   congr 2
   have e1:(c.toList.set o v).take (o+1)=c.toList.take o++[v]:=by
    rw[q2Y,q1C z0X,List.take_set_of_le z0D];rfl
   have e2:(c.toList.set o v).drop (o+1+vs.length)=c.toList.drop (o+(vs.length+1)):=by
    rw[List.drop_set_of_lt z0D]
    congr 1
    omega
   simp only[Array.toList_setIfInBounds,e1,e2,V9];simp
def A0m{o:Nat}(j:Nat):(⟨b,o,none⟩:Addr).add j=⟨b,o+j,none⟩:=by
 unfold Addr.add;split
 ·rename_i e;subst e;rfl
 ·rfl
def A4R{ty:TypeId}{i:TypeInfo}(ht:P.underlying t=some (.slice e))(hi:P.info? e=some i)(hz:i.zero=some z)(hzl:z.cells.size=i.size)(hsz:i.size=d.length)
   (hF:∀b,F b->b<w.heap.size)  {x:Value} {fn:List Nat} {vn:List Value} (hb:C.Rd F w (.sl true d rows) v fp) (hlt:∀b∈fp,b<w.heap.size/\¬F b)
  (hs:Src P i.size tx x ys.length vn w) (hy:C.RdRows F w ys vn fn) (hyl:∀r∈ys,r.length=d.length) (hfn:∀b∈fn,b<w.heap.size) (hnd:(fp++fn).Nodup) (hby:0<i.bytes) (hroom:(rows.length+ys.length)*i.bytes<=140737488355328):
  ∃v' w' fp',(Builtin.append_ #[t,tx] ty #[v,x]).run P w=.ok v' w'/\Turn (·∈fp) w w'/\C.Rd F w' (.sl true d (rows++ys)) v' fp'/\fp'.Nodup/\∀b∈fp',b<w'.heap.size/\(w.heap.size<=b\/b∈fp\/b∈fn):=by
 have hmax:rows.length+ys.length<=140737488355328:=q3B (q5W _ hby) hroom;have hdisj:∀b∈fp,b∉fn:=fun b h1 h2=>(q0Q.1 hnd).2.2 b h1 b h2 rfl
 have hvn:=A6 hyl hy;unfold C.Rd at hb;obtain⟨ad,cap,rfl,e2,e3,e4,e5⟩:=hb;simp only[W8]at e5;have hold:∃olds fo,(Builtin.firstCells i.size rows.length (.slice ad rows.length cap)).run P w.drew=.ok olds.toArray w.drew/\C.RdRows F w rows olds fo/\(∀b∈fo,b∈fp)/\fo.Nodup/\∀b∈fo,∀b0 o vs,ad=some ⟨b0,o,none⟩->CellsAt w b0 o vs->True:=by
  rcases e5 with⟨h0,_⟩|⟨b,off,V,fp',rfl,hf,_,hat,hrows⟩
  ·have:rows=[]:=q0L.1 z0D;subst this;refine⟨[],[], ?_,by unfold C.RdRows;exact⟨rfl,rfl⟩,z0E,q0Z,z0E⟩;cases ad with
   | none=>simp[Builtin.firstCells]
   | some p=>exact run_firstCells_some w.drew i.size 0 p 0 cap [] z0E (by simp)
  ·refine⟨V,fp',run_firstCells_some w.drew i.size rows.length ⟨b,off,none⟩ _ cap V ?_ ?_,hrows,fun x hx=>by rw[hf];simp[hx], ?_,fun _ _ _ _ _ _ _=>trivial⟩
   ·rw[A6 e4 hrows,hsz]
   ·intro j u hu;obtain⟨hj,rfl⟩:=q0U.1 hu;rw[A0m j];exact hat j hj
   ·rw[hf]at hnd;exact(q1Q.1 (q0Q.1 hnd).1).2
 by_cases hrm:rows.length+ys.length<=cap
 ·rcases e5 with⟨h0,hfp⟩|⟨b,off,V,fp',rfl,hf,⟨c,e',hh,hsize⟩,hat,hrows⟩
  ·
   have hr0:rows=[]:=q0L.1 z0D;have hy0:ys=[]:=q0L.1 z0D;subst hr0 hy0 h0;unfold C.RdRows at hy;obtain⟨rfl,rfl⟩:=hy;refine⟨_,w,[],run_append_nothing (P:=P) w t tx ty e i ht hi ad 0 0 (q0F _) x hs,⟨fun _ _ _=>rfl,q0F _,rfl,Tp.of rfl rfl,rfl⟩, ?_,q0Z,z0E⟩;unfold C.Rd;exact⟨ad,0,rfl,z0E,z0E,z0E,.inl ⟨rfl,rfl⟩⟩
  ·have hVl:=A6 e4 hrows;have hm1:(rows.length+ys.length)*d.length<=cap*d.length:=q1S _ hrm;rw[q2C]at hm1;have hcs:off+rows.length*i.size+vn.length<=c.size:=by rw[hsz,hvn];omega
   have hcell:∀j,j<vn.length->w.cell? ⟨b,off+rows.length*i.size+j,none⟩=c[off+rows.length*i.size+j]?:=fun j _=>by simp[World.cell?,hh]
   have hrun:=run_append_room_src (P:=P) w t tx ty e i ht hi b off rows.length cap x ys.length vn hs hrm
    (fun j hj=>by rw[hcell j hj,q1N z0D];rfl) (fun j hj=>by simp[World.frozen?,hh])
   obtain⟨g1,g2,g3,g4,g5⟩:=Z8 b vn (off+rows.length*i.size) w;have g6:=A0l b vn (off+rows.length*i.size) w c hh hcs;obtain⟨pre,post,hc,hpre⟩:=A3o hat hh z0D;have hbF:=(hlt b (by rw[hf];simp)).2;have hsF:Q2 w (w.setCells b (off+rows.length*i.size) vn) F:=fun y hy=>g1 y (fun e=>hbF (e▸hy))
   have hbn:b∉fn:=hdisj b (by rw[hf];simp);rw[hf]at hnd;have hbf:b∉fp':=(q1Q.1 (q0Q.1 hnd).1).1;have hnd':(b::(fp'++fn)).Nodup:=by simpa using hnd
   refine⟨_,_,b::(fp'++fn),hrun,⟨fun y _ hn=>g1 y (fun e=>hn (by rw[hf];simp[e])),by rw[g2];exact q0F _,g3,g4,g5⟩, ?_,hnd', ?_⟩
   ·unfold C.Rd;refine⟨_,cap,by rw[V6],by rw[V6];exact hrm,e3, ?_,.inr ⟨b,off,V++vn,fp'++fn,rfl,rfl,⟨_,e',g6, ?_⟩,A0B (pre:=pre) (post:=c.toList.drop (off+rows.length*i.size+vn.length)) g6 ?_ hpre,O9 (C.RdRows.mono (fun _ h=>h) hsF _ _ _ (fun y hy=>g1 y (fun e=>hbf (e▸hy))) hrows) (C.RdRows.mono (fun _ h=>h) hsF _ _ _ (fun y hy=>g1 y (fun e=>hbn (e▸hy))) hy)⟩⟩
    ·intro r hr;rcases V0.1 hr with hr|hr
     ·exact e4 r hr
     ·exact hyl r hr
    ·simp only[z0A];omega
    ·simp only[q0X];have:c.toList.take (off+rows.length*i.size)=pre++V:=by
      have hl:(pre++V).length=off+rows.length*i.size:=by rw[V6,hpre,hVl,hsz]
      rw[hc,<-q0X,<-hl,q4P]
     rw[this,q0X]
   ·intro y hy;rw[g2];simp only[q0B,V0]at hy;rcases hy with rfl|hy|hy
    ·exact⟨(hlt y (by rw[hf];simp)).1,.inr (.inl (by rw[hf];simp))⟩
    ·exact⟨(hlt y (by rw[hf];simp[hy])).1,.inr (.inl (by rw[hf];simp[hy]))⟩
    ·exact⟨hfn y hy,.inr (.inr hy)⟩
 ·obtain⟨olds,fo,ho1,ho2,ho3,ho4,_⟩:=hold;have hgt:cap<rows.length+ys.length:=by omega
  have hrun:=run_append_grow_src (P:=P) w t tx ty e i z ht hi hz ad rows.length cap olds ho1 x ys.length vn hs hgt z0D (growslice_fits hgt hroom);have hge:=grownCap_ge w (rows.length+ys.length) cap e;have hle:=grownCap_le_maxLen w (rows.length+ys.length) cap e (by simp[maxLen];omega);have hol:=A6 e4 ho2;generalize hg:grownCap w (rows.length+ys.length) cap e=gc at*;have hsame:∀y,y<w.heap.size->((w.drew.alloc (.cells ((olds++vn).toArray++Builtin.zeroCells z.cells (gc-(rows.length+ys.length))) e)).heap[y]? = w.heap[y]?):=fun y hy=>E4 (w:=w.drew) hy
  have hfo:∀y∈fo,y<w.heap.size:=fun y hy=>(hlt y (ho3 y hy)).1
  refine⟨_,_,w.heap.size::(fo++fn),hrun,⟨fun y hy _=>hsame y hy,by show w.heap.size<=(w.drew.heap.push _).size;rw[q5C];exact q4V _,rfl,⟨rfl,q4V _⟩,rfl⟩, ?_, ?_, ?_⟩
  ·unfold C.Rd;have hnew:(w.drew.alloc (.cells ((olds++vn).toArray++Builtin.zeroCells z.cells (gc-(rows.length+ys.length))) e)).heap[w.heap.size]? = some (.cells ((olds++vn).toArray++Builtin.zeroCells z.cells (gc-(rows.length+ys.length))) e (0,0)):=heap_alloc_new w.drew _;refine⟨_,gc,by rw[V6],by rw[V6];exact hge,hle, ?_,.inr ⟨w.heap.size,0,olds++vn,fo++fn,rfl,rfl,⟨_,e,hnew, ?_⟩,A0B (pre:=[]) (post:=(Builtin.zeroCells z.cells (gc-(rows.length+ys.length))).toList) hnew z0E rfl,O9 (C.RdRows.mono (fun _ h=>h) (fun y hy=>hsame y (hF y hy)) _ _ _ (fun y hy=>hsame y (hfo y hy)) ho2) (C.RdRows.mono (fun _ h=>h) (fun y hy=>hsame y (hF y hy)) _ _ _ (fun y hy=>hsame y (hfn y hy)) hy)⟩⟩
   ·intro r hr;rcases V0.1 hr with hr|hr
    ·exact e4 r hr
    ·exact hyl r hr
   ·simp only[q3P,q0J,V6,Builtin.zeroCells,Array.size_map,Array.size_range,hol,hvn,hzl,hsz,q3O];have:gc*d.length=(rows.length+ys.length)*d.length+(gc-(rows.length+ys.length))*d.length:=by rw[<-q2C];congr 1;omega
    rw[this,q2C];exact q0F _
  ·refine q1Q.2 ⟨fun h=>?_,q0Q.2 ⟨ho4,(q0Q.1 hnd).2.1,fun y h1 z h2 e=>hdisj y (ho3 y h1) (e▸h2)⟩⟩;rcases V0.1 h with h|h
   ·have:=hfo _ h;omega
   ·have:=hfn _ h;omega
  ·intro y hy;have hs2:(w.drew.alloc (.cells ((olds++vn).toArray++Builtin.zeroCells z.cells (gc-(rows.length+ys.length))) e)).heap.size=w.heap.size+1:=by show(w.drew.heap.push _).size=_;rw[q5C];rfl
   rw[hs2];simp only[q0B,V0]at hy;rcases hy with rfl|hy|hy
   ·exact⟨z0D,.inl (q0F _)⟩
   ·exact⟨by have:=hfo y hy;omega,.inr (.inl (ho3 y hy))⟩
   ·exact⟨by have:=hfn y hy;omega,.inr (.inr hy)⟩
def A0n(dp:Bool)(st:St):AV->Option (List C×List (List C)×List Nat)
 | .v false [.nl d]=>some (flD dp d,[],[])
 | .v false [.ow k]=>match st.ow k with
   | some (d,rows)=>some (d,rows,[k])
   | none=>none
 | .v false [.c (.sl true d [])]=>some (d,[],[])
 | _=>none
def Y0(st:St):AV->Option (List C×List (List C)×List Nat)
 | .v false [.nl d]=>some (d,[],[])
 | .v false [.ow k]=>match st.ow k with
   | some (d,rows)=>some (d,rows,[k])
   | none=>none
 | .v false [.c (.sl false d ys)]=>some (d,ys,[])
 | _=>none
def VOk.cell{x:AC}(h:VOk γ st w false [x] v):ACOk γ st w x v:=by
 obtain⟨y,e,h⟩:=h;simp only[K8]at e;subst e;exact h
def base_ok(hm:Mem B γ st w){x:AV}(h:A0n dp st x=some (d,rows,ks))(hv:AVOk γ st w x v):
  ∃fp,C.Rd γ.F w (.sl true d rows) v fp/\fp.Nodup/\(∀b∈fp,∃k∈ks,b∈γ.f k)/\∀k∈ks,(st.ow k).isSome=true:=by
 unfold A0n at h;split at h
 ·simp only[K1]at h;obtain⟨rfl,rfl,rfl⟩:=h;have hv:=VOk.cell (show VOk γ st w false _ v from hv);simp only[ACOk]at hv;exact⟨[],by unfold C.Rd;exact⟨none,0,hv,z0E,z0E,z0E,.inl ⟨rfl,rfl⟩⟩,q0Z,z0E,z0E⟩
 ·rename_i k;split at h
  ·rename_i d' rows' ho;simp only[K1]at h;obtain⟨rfl,rfl,rfl⟩:=h;have hlive:(st.ow k).isSome=true:=by rw[ho];rfl
   have hv:=VOk.cell (show VOk γ st w false _ v from hv);simp only[ACOk]at hv;rw[hv.2];obtain⟨g1,g2⟩:=hm.ow k _ _ ho;exact⟨γ.f k,g1,g2,fun b hb=>⟨k,z0E,hb⟩,fun k' hk'=>by rw[q0E.1 hk'];exact hlive⟩
  ·exact absurd h (by simp)
 ·simp only[K1]at h;obtain⟨rfl,rfl,rfl⟩:=h;have hv:=VOk.cell (show VOk γ st w false _ v from hv);simp only[ACOk]at hv;exact⟨[],hv,q0Z,z0E,z0E⟩
 ·exact absurd h z0E
def A1l{F:Nat->Prop}:∀{l:List (List C)} {vs:List Value} {fp:List Nat},C.RdRows F w l vs fp->∀v∈vs,v.oneCell'=true
 | [],vs,fp,h,v,hv=>by unfold C.RdRows at h;rw[h.1]at hv;cases hv
 | x::l,vs,fp,h,v,hv=>by
   unfold C.RdRows at h;obtain⟨u,r,f1,f2,rfl,_,h1,h2⟩:=h;rcases V0.1 hv with hv|hv
   ·exact X6 h1 v hv
   ·exact A1l h2 v hv
def A7a{e':TypeId}{size:Nat}{u:Bool}{fn:List Nat}(hk:P.underlying tx=some (.slice e'))(hd:d.length=size)(h:C.Rd F w (.sl u d ys) v fn):
  ∃vn fy,Src P size tx v ys.length vn w/\C.RdRows F w ys vn fy/\(∀b∈fy,b∈fn)/\(fn.Nodup->fy.Nodup)/\∀r∈ys,r.length=d.length:=by
 unfold C.Rd at h;obtain⟨ad,cap,rfl,e2,e3,e4,e5⟩:=h;have nothing:ys=[]->∃vn fy,Src P size tx (.slice ad ys.length cap) ys.length vn w/\C.RdRows F w ys vn fy/\(∀b∈fy,b∈fn)/\(fn.Nodup->fy.Nodup)/\∀r∈ys,r.length=d.length:=by
  rintro rfl;refine⟨[],[], ?_,by unfold C.RdRows;exact⟨rfl,rfl⟩,z0E,fun _=>q0Z,z0E⟩;cases ad with
  | none=>exact Src.ofNil w hk cap
  | some p=>exact Src.ofSlice w hk p 0 cap [] z0E z0E (by simp)
 have some_:∀b off V fy,ad=some ⟨b,off,none⟩->CellsAt w b off V->C.RdRows F w ys V fy->(∀b∈fy,b∈fn)->(fn.Nodup->fy.Nodup)->
   ∃vn fy,Src P size tx (.slice ad ys.length cap) ys.length vn w/\C.RdRows F w ys vn fy/\(∀b∈fy,b∈fn)/\(fn.Nodup->fy.Nodup)/\∀r∈ys,r.length=d.length:=by
  rintro b off V fy rfl hat hr h1 h2;refine⟨V,fy,Src.ofSlice w hk _ _ cap V (by rw[A6 e4 hr,hd]) ?_ (A1l hr),hr,h1,h2,e4⟩;intro j u hu;obtain⟨hj,rfl⟩:=q0U.1 hu;rw[A0m j];exact hat j hj
 cases u with
 | true=>
   simp only[W8]at e5;rcases e5 with⟨h0,_⟩|⟨b,off,V,fp',h1,h2,_,h3,h4⟩
   ·exact nothing (q0L.1 z0D)
   ·exact some_ b off V fp' h1 h3 h4 (fun x hx=>by rw[h2];simp[hx]) (fun h=>by rw[h2]at h;exact(q1Q.1 h).2)
 | false=>
   obtain⟨hf,e5⟩:=e5;rcases e5 with h0|⟨b,off,V,h1,_,h3,h4⟩
   ·exact nothing h0
   ·exact some_ b off V [] h1 h3 h4 z0E (fun _=>q0Z)
def A4H(hm:Mem B γ st w){e':TypeId}{size:Nat}(hk:P.underlying tx=some (.slice e')){x:AV}(hd:d.length=size)(h:Y0 st x=some (d,ys,ks))(hv:AVOk γ st w x v):
  ∃vn fn,Src P size tx v ys.length vn w/\C.RdRows γ.F w ys vn fn/\fn.Nodup/\(∀b∈fn,∃k∈ks,b∈γ.f k)/\(∀k∈ks,(st.ow k).isSome=true)/\∀r∈ys,r.length=d.length:=by
 unfold Y0 at h;split at h
 ·simp only[K1]at h;obtain⟨rfl,rfl,rfl⟩:=h;have hv:=VOk.cell (show VOk γ st w false _ v from hv);simp only[ACOk]at hv;subst hv;exact⟨[],[],Src.ofNil w hk 0,by unfold C.RdRows;exact⟨rfl,rfl⟩,q0Z,z0E,z0E,z0E⟩
 ·rename_i k;split at h
  ·rename_i d' rows' ho;simp only[K1]at h;obtain⟨rfl,rfl,rfl⟩:=h;have hlive:(st.ow k).isSome=true:=by rw[ho];rfl
   have hv:=VOk.cell (show VOk γ st w false _ v from hv);simp only[ACOk]at hv;rw[hv.2];obtain⟨g1,g2⟩:=hm.ow k _ _ ho;obtain⟨vn,fy,a1,a2,a3,a4,a5⟩:=A7a hk hd g1;exact⟨vn,fy,a1,a2,a4 g2,fun b hb=>⟨k,z0E,a3 b hb⟩,(fun k' hk'=>by rw[q0E.1 hk'];exact hlive),a5⟩
  ·exact absurd h (by simp)
 ·simp only[K1]at h;obtain⟨rfl,rfl,rfl⟩:=h;have hv:=VOk.cell (show VOk γ st w false _ v from hv);simp only[ACOk]at hv;obtain⟨vn,fy,a1,a2,a3,a4,a5⟩:=A7a hk hd hv;exact⟨vn,fy,a1,a2,a4 q0Z,(fun b hb=>absurd (a3 b hb) z0E),z0E,a5⟩
 ·exact absurd h z0E
def Sim.app{dst:Nat}{x y:AV}{u:Value}{d2:List C}{k1 k2:List Nat}(hS:Sim N B γ st a w)(hx:A0n dp st x=some (d,rows,k1))(hy:Y0 st y=some (d2,ys,k2))(hv:AVOk γ st w x v)(hu:AVOk γ st w y u)
  (hk:∀k∈k1,k∉k2) {ty e':TypeId} {i:TypeInfo}  (ht:P.underlying t=some (.slice e)) (htx:P.underlying tx=some (.slice e')) (hi:P.info? e=some i) (hz:i.zero=some z) (hzl:z.cells.size=i.size) (hsz:i.size=d.length) (hd:d2.length=d.length)
  (hby:0<i.bytes) (hroom:(rows.length+ys.length)*i.bytes<=140737488355328) (hk2:dst%2=0):
  ∃v' w' γ',(Builtin.append_ #[t,tx] ty #[v,u]).run P w=.ok v' w'/\Sim N B γ' (((Aw.killAll st (k1++k2)).sub dst .un).setOw dst d (rows++ys)) a w'/\γ'.v dst=v'/\∃p n c,v'=.slice p n c:=by
 obtain⟨fp,b1,b2,b3,b4⟩:=base_ok hS.toMem hx hv;obtain⟨vn,fn,m1,m2,m3,m4,m5,m6⟩:=A4H (P:=P) hS.toMem htx (size:=i.size) (hd.trans hsz.symm) hy hu;have hpl:∀b∈fp,b<w.heap.size/\¬γ.F b:=fun b hb=>by
  obtain⟨k,g1,g2⟩:=b3 b hb;have:=hS.owM k (b4 k g1) b g2;exact⟨this.2.2.1,this.2.1⟩
 have hnl:∀b∈fn,b<w.heap.size:=fun b hb=>by
  obtain⟨k,g1,g2⟩:=m4 b hb;exact(hS.owM k (m5 k g1) b g2).2.2.1
 have hnd:(fp++fn).Nodup:=by
  refine q0Q.2 ⟨b2,m3, ?_⟩;intro p hp q hq e;subst e;obtain⟨k,g1,g2⟩:=b3 p hp;obtain⟨k',g3,g4⟩:=m4 p hq;exact hS.owI k k' (b4 k g1) (m5 k' g3) (fun e=>hk k g1 (e▸g3)) p g2 g4
 obtain⟨v',w',fp',r1,r2,r3,r4,r5⟩:=A4R (ty:=ty) ht hi hz hzl hsz hS.Fw b1 hpl m1 m2 (fun r hr=>by rw[m6 r hr,hd]) hnl hnd hby hroom;have hS':=(hS.killAll (ks:=k1++k2)).kill dst;have hid:∀b,b∈fp\/b∈fn->Idle B.M γ ((Aw.killAll st (k1++k2)).sub dst .un) w b:=by
  rintro b (hb|hb)
  ·obtain⟨k,g1,g2⟩:=b3 b hb;exact(hS.idles (V0.2 (.inl g1)) (b4 k g1) g2).kill dst .un
  ·obtain⟨k,g1,g2⟩:=m4 b hb;exact(hS.idles (V0.2 (.inr g1)) (m5 k g1) g2).kill dst .un
 have hT:Turn (fun b=>Idle B.M γ ((Aw.killAll st (k1++k2)).sub dst .un) w b) w w':=⟨fun b hb hn=>r2.fr b hb (fun h=>hn (hid b (.inl h))),r2.sz,r2.os,r2.tape,r2.out⟩
 refine⟨v',w',γ.key dst v' fp',r1,hS'.newKeyT hk2 hT r3 r4 (fun b hb=>⟨(r5 b hb).1,(r5 b hb).2.imp id (hid b)⟩),z10, ?_⟩;unfold C.Rd at r3;obtain⟨p,c,e,_⟩:=r3;exact⟨p,_,c,e⟩
end
def ky(d p:Nat):Nat:=128*d+2*p
def A0F(d p:Nat):ky d p%2=0:=by unfold ky;omega
def frLK:St->List Nat->List AC->List AC
 | _,[],l=>l
 | st,k::ks,l=>frLK (st.frK k) ks (match st.ow k with|some (d,r)=>E9 k (.c (.sl false (C.freeL d) (C.freeRs r))) l|none=>l)
def Y5(dp:Bool)(st:St)(l:List AC):St:=bif dp then st else st.frKs (F3 l)
def A3N(dp:Bool)(st:St)(l:List AC):List AC:=bif dp then l else frLK st (F3 l) l
def U8(Γ:Ctx)(st:St)(o:AOper):Option (Prop×St):=
 match o.guard with
 | some _=>none
 | none=>match o.op with
   | .mks m by_ ks ln cp=>match o.dst,kCs ks,U3 (rdO st true ln).2,U3 (rdO st true cp).2 with
     | some d,some z,some n,some c=>if z.length=m then some ((rdO st true ln).1/\(rdO st true cp).1/\0<=n/\n<=c/\(by_:Int)*c<=281474976710656/\c<=9223372036854775807,
        ((st.sub (ky d 0) .un).setOw (ky d 0) (flD Γ.deep z) (List.replicate n.toNat (flD Γ.deep z))).put d (.v false [.ow (ky d 0)]))else none
     | _,_,_,_=>none
   | .bsl m n ks parts=>match o.dst,kCs ks,kzs ks with
     | some d,some z,some zl=>match Q4 st true (List.replicate n zl).flatten (parts.map fun q=>(q.1*m,m,q.2))with
       | some (p,l)=>match I2 Γ.deep Γ.deep (Y5 Γ.deep st l) (A3N Γ.deep st l)with
         | some (cs,keys)=>if z.length=m/\cs.length=n*m then some (p,(((killAll (Y5 Γ.deep st l) keys).sub (ky d 0) .un).setOw (ky d 0) (flD Γ.deep z) (Y3 m n cs)).put d (.v false [.ow (ky d 0)]))else none
         | none=>none
       | none=>none
     | _,_,_=>none
   | .app m by_ ks x y=>match o.dst,A0n Γ.deep st (rdO st true x).2,Y0 st (rdO st true y).2 with
     | some d,some (z,rows,k1),some (z2,ys,k2)=>if z.length=m/\z2.length=m/\k1.all (fun k=>!k2.contains k)=true then
        some ((rdO st true x).1/\(rdO st true y).1/\(rows.length+ys.length)*by_<=140737488355328,(((killAll st (k1++k2)).sub (ky d 0) .un).setOw (ky d 0) z (rows++ys)).put d (.v false [.ow (ky d 0)]))else none
     | _,_,_=>none
   | .st n x v=>match rdO st true x,rdO st true v with
     | (p,.op k r o'),(q,.v _ l)=>match(Y5 Γ.deep st l).ow k,I2 Γ.deep Γ.deep (Y5 Γ.deep st l) (A3N Γ.deep st l)with
       | some (d,rows),some (cs,keys)=>if cs.length=n/\o'+n<=d.length/\keys.contains k=false/\(F3 l).contains k=false then
          some (p/\q/\r<rows.length,(((killAll (Y5 Γ.deep st l) keys).dip k).setOw k d (rows.set r (I4 (rows.getD r d) o' cs))).puto o.dst .u)else none
       | _,_=>none
     | _,_=>none
   | .slc n x lo hi none=>match o.dst,rdO st true x with
     | some d,(q,.v false [.ow k])=>match st.ow k with
       | some (z,l)=>if z.length=n then match X9 st true l.length lo hi with
          | some (p,i,j)=>some (q/\p,((st.susK k).sub (ky d 0) .un).setOw (ky d 0) z (cut l i j) |>.put d (.v false [.ow (ky d 0)]))
          | none=>none
         else none
       | none=>none
     | _,_=>none
   | _=>none
section
def owOk(h:∃p n c,v=.slice p n c)(hv:γ.v k=v):AVOk γ s w (.v false [.ow k]) v:=by
 simp only[AVOk];exact⟨_,rfl,by simp only[ACOk];exact⟨h,hv.symm⟩⟩
def X0:∀{ks:List K} {vs:List Value},F6 ks vs=true->vs.length=ks.length
 | [],[],_=>rfl
 | [],_::_,h=>by simp[F6]at h
 | _::_,[],h=>by simp[F6]at h
 | k::ks,v::vs,h=>by
   simp only[F6,W3]at h;simp[X0 h.2]
def A2D{e:TypeId}:∀{raw:List (Nat×Operand)} {pl:List (Nat×Opd)},A1I P e raw=some pl->raw.length=pl.length/\∀(j:Nat) i x i' y,raw[j]? = some (i,x)->pl[j]? = some (i',y)->i'=i/\opd P e x=some y
 | [],pl,h=>by
   simp only[A1I,W0]at h;subst h;exact⟨rfl,z0E⟩
 | (i,x)::raw,pl,h=>by
   simp only[A1I]at h;split at h
   ·rename_i y l h1 h2;simp only[W0]at h;subst h;obtain⟨g1,g2⟩:=A2D h2;refine⟨by simp[g1], ?_⟩;intro j i1 x1 i2 y2 hj hj2;cases j with
    | zero=>
      simp only[q2O,K1]at hj hj2;obtain⟨rfl,rfl⟩:=hj;obtain⟨rfl,rfl⟩:=hj2;exact⟨rfl,h1⟩
    | succ j=>exact g2 j i1 x1 i2 y2 z1B (by simpa using hj2)
   ·exact absurd h z0E
def A5x(h:A2H P t=some d):0<d.length:=by
 unfold A2H at h;split at h
 ·split at h
  ·split at h
   ·rename_i hc;simp only[W0]at h;subst h;omega
   ·exact absurd h (by simp)
  ·exact absurd h (by simp)
 ·exact absurd h z0E
def A4y{γ:G}:∀{ks:List Nat} {γ:G} {st:St} {l:List AC} {vs:List Value},Sim N B γ st a w->ACsOk γ st w l vs->∃γ',Sim N B γ' (st.frKs ks) a w/\ACsOk γ' (st.frKs ks) w (frLK st ks l) vs/\γ'.β=γ.β/\γ'.v=γ.v
 | [],γ,st,l,vs,hS,h=>⟨γ,hS,h,rfl,rfl⟩
 | k::ks,γ,st,l,vs,hS,h=>by
   obtain⟨γ1,h1,e1,e2,e3,e4,e5⟩:=hS.frK k;have h2:ACsOk γ1 (st.frK k) w (match st.ow k with|some (d,r)=>E9 k (.c (.sl false (C.freeL d) (C.freeRs r))) l|none=>l) vs:=by
    cases hk:st.ow k with
    | none=>
      simp only[St.frK,hk];exact h.tr (γ:=γ) (γ':=γ1) (st:=st) (st':=st) (w:=w) (w':=w) (X:=no) (Q:=no) (Y:=no) (Z:=no) ⟨fun _ _=>by rw[e1],fun _ _=>by rw[e2],e4,fun _ _=>rfl,fun k d l _ _ hk=>⟨d,l,hk,rfl,fun _=>rfl⟩,fun _ _ _ _ _ _ _ _ _ _ _ _ _=>rfl⟩ (fun _ _=>AC.fr_no)
    | some q=>
      obtain⟨d,r⟩:=q;simp only;have T:Tr no no no no γ st w γ1 (st.frK k) w:=by
       refine⟨fun _ _=>by rw[e1],fun _ _=>by rw[e2],e4,fun _ _=>rfl,fun k2 d2 l2 _ _ hk2=>?_,fun _ _ _ _ _ _ _ _ _ _ _ _ _=>rfl⟩;simp only[St.frK,hk,J3]at hk2;split at hk2
       ·cases hk2
       ·exact⟨d2,l2,hk2,rfl,fun _=>rfl⟩
      have:=h.tr T (fun _ _=>AC.fr_no);refine ACsOk.subst ?_ this;simp only[ACOk];have hb:∀b∈γ.f k,γ1.F b:=e5 (by rw[hk];rfl);rw[e2];have:=C.Rd.free (F':=γ1.F) e4 _ _ _ hb (hS.ow k d r hk).1;unfold C.free at this;exact this
   obtain⟨γ2,g1,g2,g3,g4⟩:=A4y (γ:=γ1) (ks:=ks) h1 h2;exact⟨γ2,g1,g2,g3.trans e1,g4.trans e2⟩
def A6I{dp:Bool}{vs:List Value}(hS:Sim N B γ st a w)(h:ACsOk γ st w l vs):∃γ',Sim N B γ' (Y5 dp st l) a w/\ACsOk γ' (Y5 dp st l) w (A3N dp st l) vs/\γ'.β=γ.β/\γ'.v=γ.v:=by
 unfold Y5 A3N;cases dp with
 | true=>exact⟨γ,hS,h,rfl,rfl⟩
 | false=>exact A4y (γ:=γ) hS h
def A0r{F:Nat->Prop}{m:Nat}:∀{l:List (List C)} {vs:List Value} {fp:List Nat} (n:Nat),(∀r∈l,r.length=m)->C.RdRows F w l vs fp->
  ∃f1 f2,fp=f1++f2/\C.RdRows F w (l.take n) (vs.take (n*m)) f1/\C.RdRows F w (l.drop n) (vs.drop (n*m)) f2
 | [],vs,fp,n,_,h=>by
   unfold C.RdRows at h;obtain⟨rfl,rfl⟩:=h;exact⟨[],[],rfl,z2M,z2M⟩
 | r::l,vs,fp,0,_,h=>⟨[],fp,rfl,z2M,z05⟩
 | r::l,vs,fp,n+1,hm,h=>by
   unfold C.RdRows at h;obtain⟨v1,v2,f1,f2,rfl,rfl,h1,h2⟩:=h;obtain⟨g1,g2,rfl,k1,k2⟩:=A0r n (fun x hx=>hm x z0N) h2;have e:=RdVals.length h1;rw[hm r z0E]at e;have em:(n+1)*m=v1.length+n*m:=by rw[e,q2C,q4K,q4D]
   refine⟨f1++g1,g2,z0E, ?_, ?_⟩
   ·rw[em,List.take_length_add_append,q0G];unfold C.RdRows;exact⟨v1,_,f1,g1,rfl,rfl,h1,k1⟩
   ·rw[em,List.drop_length_add_append,q0H];exact k2
def own_cut{l:List (List C)}{ad:Option Addr}{cap A D:Nat}(hd:d.length=n)(h:C.Rd F w (.sl true d l) (.slice ad l.length cap) fp)(hAB:A<=D)(hD:D<=l.length):
  ∃fp',C.Rd F w (.sl true d (cut l A D)) (.slice (if cap=A then ad else ad.map (·.add (A*n))) (D-A) (cap-A)) fp'/\(∀b∈fp',b∈fp)/\(fp.Nodup->fp'.Nodup):=by
 unfold C.Rd at h;obtain⟨ad',cap',ev,hcap,hmax,hrows,hrd⟩:=h;simp only[Value.slice.injEq,q0M]at ev;obtain⟨rfl,rfl⟩:=ev;simp only[W8]at hrd;have hcl:(cut l A D).length=D-A:=by unfold cut;simp;omega
 have hrows':∀r∈cut l A D,r.length=d.length:=fun r hr=>hrows r (q2Z (q1L hr))
 by_cases hz:cap-A=0
 ·refine⟨[], ?_,z0E,fun _=>q0Z⟩;unfold C.Rd;exact⟨_,cap-A,by rw[hcl],z0D,z0D,hrows',.inl ⟨hz,rfl⟩⟩
 ·rcases hrd with⟨hc,_⟩|⟨b,o,vs,fp',rfl,rfl,hob,hca,hrr⟩
  ·omega
  ·obtain⟨f1,f2,rfl,_,k2⟩:=A0r A hrows hrr;obtain⟨f3,f4,rfl,k3,_⟩:=A0r (D-A) (fun r hr=>hrows r (q2Z hr)) k2;refine⟨b::f3, ?_, ?_, ?_⟩
   ·unfold C.Rd;refine⟨_,cap-A,by rw[hcl],z0D,z0D,hrows',.inr ⟨b,o+A*n,_,f3, ?_,rfl, ?_, ?_,k3⟩⟩
    ·rw[if_neg z0D];simp[O0]
    ·obtain⟨c,e,g1,g2⟩:=hob;refine⟨c,e,g1, ?_⟩;rw[hd,q5X];have:A*n<=cap*n:=q1S _ z0D;rw[hd]at g2;omega
    ·rw[hd];exact(hca.drop _).take _
   ·intro x hx;simp only[q0B,V0]at hx ⊢;rcases hx with h|h
    ·exact .inl h
    ·exact .inr (.inr (.inl h))
   ·intro hnd;rw[q1Q]at hnd ⊢;refine⟨fun h=>hnd.1 z0Y, ?_⟩;have:=(q0Q.1 hnd.2).2.1;exact(q0Q.1 this).1
def frK_ow{k':Nat}{q:List C×List (List C)}(h:(st.frK k).ow k'=some q):st.ow k'=some q:=by
 unfold St.frK at h;split at h
 ·rw[J3]at h;split at h
  ·cases h
  ·exact h
 ·exact h
def A4x:∀{ks:List Nat} {st:St} {k:Nat} {q:List C×List (List C)},(st.frKs ks).ow k=some q->st.ow k=some q
 | [],st,k,q,h=>h
 | x::ks,st,k,q,h=>frK_ow (A4x (ks:=ks) h)
def pre_ow{q:List C×List (List C)}(_:k∉F3 l)(h:(Y5 dp st l).ow k=some q):st.ow k=some q:=by
 unfold Y5 at h;cases dp with
 | true=>exact h
 | false=>exact A4x h
set_option maxHeartbeats 800000 in
def A3Y{ao:AOper}(hc:A8 P N ops o=some ao)(hS:Sim N B γ st a w)(h:U8 Γ st ao=some (p,st'))(hp:p)
  {K:Act->World->Prop} {Q:Exit->Act->World->Prop} (hK:∀γ' a' w',Sim N B γ' st' a' w'->K a' w'):
  if Region.wanted o (yielded ops a.tmps)then o.wp P a w K Q\/(o.asks P a w/\LetsOut Q)else K (a.put o.dst undef) w:=by
 obtain⟨hcop,hdst,hdN,hreads,hgd⟩:=E5 hc;unfold U8 at h;split at h
 ·exact absurd h (by simp)
 ·rename_i hg;have hw:=Q1 (g:=true) hc (fun j=>hS.sl j) (by rw[hg];rfl);rw[hw];simp only[if_true];left;obtain⟨dst,op,ty,pos,aft,grd⟩:=o;split at h
  ·
   rename_i m by_ ks ln cp hop;rw[hop]at hcop;split at h
   ·rename_i d z n c hd hz h1 h2;split at h
    ·rename_i hm;simp only[K1]at h;obtain⟨rfl,rfl⟩:=h;obtain⟨p1,p2,hn0,hnc,hbytes,h63⟩:=hp;have hd':dst=some d:=by rw[<-hd,hdst]
     subst hd';have hdN':d<N:=by simpa using hdN
     cases op<;>simp only[I0]at hcop
     case makeSlice t l c'=>
      split at hcop
      ·rename_i e hu;split at hcop
       ·rename_i ks' by' d' l' cc hk hb hr hl hcc;split at hcop
        ·rename_i hlen;simp only[W0,AOp.mks.injEq]at hcop;obtain⟨rfl,rfl,rfl,rfl,rfl⟩:=hcop;obtain⟨i,zv,hi,hzv,hzc,hsz⟩:=U6 hk;have hrd:=kCs_rdF (w:=w) (F:=γ.F) (dp:=Γ.deep) hz hzc;have hzl:zv.cells.size=z.length:=by simpa[A1z]using RdVals.length hrd
         have hby:i.bytes=by':=by
          unfold tby at hb;rw[hi]at hb;simpa using hb
         subst hby;obtain⟨k1,e1,_⟩:=E2 h1 (A0 (fun j=>hS.sl j) hl p1);obtain⟨k2,e2,_⟩:=E2 h2 (A0 (fun j=>hS.sl j) hcc p2);have hrun:=run_make (P:=P) w t e i zv hu hi hzv k1 k2 n c hn0 hnc hbytes h63;have hsz2:i.size=zv.cells.size:=by rw[hsz,hlen,<-hm,hzl]
         rw[hsz2]at hrun;have hcm:c.toNat<=maxLen:=by simp[maxLen];omega
         have hrd2:=make_rd (w:=w) (e:=e) hS.Fw hrd (show n.toNat<=c.toNat by omega) hcm;have hS2:=(hS.kill (ky d 0)).newKeyT (A0F _ _) (A2e _ _) hrd2 z0E (fun b hb=>by
          rw[q0E.1 hb];exact⟨z0E,.inl (q0F _)⟩)
         unfold Oper.wp;have hx:(execOp a.eval ⟨some d,.makeSlice t l c',ty,pos,aft,grd⟩).run P w=.ok (.value (.slice (some ⟨w.heap.size,0,none⟩) n.toNat c.toNat)) (w.alloc (.cells (madeCells zv.cells (c.toNat*zv.cells.size)) e)):=by
          simp only[execOp,e1,e2,Sem.run_bind,hrun,q0V,Sem.run_pure]
         rw[hx];exact hK _ _ _ (hS2.put hdN' (owOk ⟨_,_,_,rfl⟩ z10))
        ·exact absurd hcop (by simp)
       ·exact absurd hcop (by simp)
      ·exact absurd hcop (by simp)
     all_goals(exfalso;revert hcop;(repeat' split)<;>(intro hcop;first|contradiction|(cases hcop;done)|(obtain⟨y,_,hz⟩:=W7.1 hcop;cases hz;done)))
    ·exact absurd h (by simp)
   ·exact absurd h (by simp)
  ·
   rename_i m n ks parts hop;rw[hop]at hcop;split at h
   ·rename_i d z zl hd hz hzl;split at h
    ·rename_i p1 l hfl;split at h
     ·rename_i cs keys hown;split at h
      ·rename_i hlens;simp only[K1]at h;obtain⟨rfl,rfl⟩:=h;have hd':dst=some d:=by rw[<-hd,hdst]
       subst hd';have hdN':d<N:=by simpa using hdN
       cases op<;>simp only[I0]at hcop
       case buildSlice t len raw=>
        split at hcop
        ·rename_i e hu;split at hcop
         ·rename_i ks' d' hk hr;split at hcop
          ·rename_i hlen;obtain⟨pl,hpl,he⟩:=W7.1 hcop;simp only[AOp.bsl.injEq]at he;obtain⟨rfl,rfl,rfl,rfl⟩:=he;obtain⟨i,zv,hi,hzv,hzc,hsz⟩:=U6 hk;have hzvl:zv.cells.size=d'.length:=by
            have:=RdVals.length (A2V (w:=w) (F:=γ.F) hz hzc);simp only[q1Z]at this;rw[this,hlens.1]
           have hsz2:i.size=d'.length:=by rw[hsz,hlen.2]
           obtain⟨q1,q2⟩:=A2D hpl;have hac:=A4F (γ:=γ) (st:=st) (w:=w) (A0P hzl hzc) len;obtain⟨vs',hf1,hf2⟩:=A3b (P:=P) (place:=fun i=>some (i*d'.length,d'.length)) (raw:=raw.toList) (parts:=pl.map fun q=>(q.1*d'.length,d'.length,q.2)) (by simp[q1]) (fun j i x o n y hj hj2=>by
            simp only[q3G,W7]at hj2;obtain⟨⟨i',y'⟩,hj3,e3⟩:=hj2;simp only[W4]at e3;obtain⟨rfl,rfl,rfl⟩:=e3;obtain⟨rfl,g2⟩:=q2 j i x i' y' hj hj3;exact⟨rfl,e,g2⟩) (fun j=>hS.sl j) hac hfl hp
           obtain⟨γ0,hS0,hf0,_,_⟩:=A6I (dp:=Γ.deep) hS hf2;obtain⟨γ',hS2,hv2⟩:=hS0.lay (dst:=ky d 0) (d:=flD Γ.deep z) (n:=len) (e:=e) hown hf0 (by rw[A1z];exact hlens.1) hlens.2 (by
            have h1:0<d'.length:=A5x hr;have h2:=q5W len h1;have h3:=hlen.1;simp[maxLen];omega) (A0F _ _)
           unfold Oper.wp;have hrun:(Instr.buildSlice t len (raw.map fun(i,x)=>(i,a.eval x))).run P w=.ok (.slice (some ⟨w.heap.size,0,none⟩) len len) (w.alloc (.cells vs'.toArray e)):=by
            have h24:¬(16777216<len*d'.length):=by have:=hlen.1;omega
            have hz0:∀zz:Array Value,(len*d'.length=0\/zz=zv.cells)->((Array.range (len*d'.length)).map (zz[· % zz.size]!))=(madeCells zv.cells (len*zv.cells.size)):=by
             rintro zz (h0|rfl)
             ·rw[hzvl,h0];simp[madeCells]
             ·rw[show len*zv.cells.size=len*d'.length by rw[hzvl]];rfl
            simp only[q4L]at hf1;by_cases hz1:len*d'.length=0
            ·have e5:=hz0 #[] (.inl hz1);simp[Instr.buildSlice,run_underlying hu,sizeOf,typeInfo,hi,hsz2,hz1,newRow];have hf1':=hf1;rw[show(madeCells zv.cells (len*zv.cells.size)).toList.toArray=Array.map (fun _=>(default:Value)) (Array.range 0) by rw[hzvl,hz1];simp[madeCells]]at hf1';try simp only[Function.comp_def]at hf1'
             rw[hf1'];simp
            ·simp[Instr.buildSlice,run_underlying hu,sizeOf,typeInfo,hi,hsz2,hz1,h24,newRow,zeroValue,hzv];have e5:=hz0 zv.cells (.inr rfl);have hf1':=hf1;rw[show(madeCells zv.cells (len*zv.cells.size)).toList.toArray=Array.map (fun x=>zv.cells[x%zv.cells.size]!) (Array.range (len*d'.length)) by rw[<-e5]]at hf1';try simp only[Function.comp_def]at hf1'
             rw[hf1'];simp
           have hx:(execOp a.eval ⟨some d,.buildSlice t len raw,ty,pos,aft,grd⟩).run P w=.ok (.value (.slice (some ⟨w.heap.size,0,none⟩) len len)) (w.alloc (.cells vs'.toArray e)):=by
            simp only[execOp,Sem.run_bind,hrun,q0V,Sem.run_pure]
           rw[hx];exact hK _ _ _ (hS2.put hdN' (owOk ⟨_,_,_,rfl⟩ hv2))
          ·exact absurd hcop (by simp)
         ·exact absurd hcop (by simp)
        ·exact absurd hcop (by simp)
       all_goals(exfalso;revert hcop;(repeat' split)<;>(intro hcop;first|contradiction|(cases hcop;done)|(obtain⟨y,_,hz⟩:=W7.1 hcop;cases hz;done)))
      ·exact absurd h (by simp)
     ·exact absurd h (by simp)
    ·exact absurd h (by simp)
   ·exact absurd h (by simp)
  ·
   rename_i m by_ ks x y hop;rw[hop]at hcop;split at h
   ·rename_i d z rows k1 z2 ys k2 hd hx hy;split at h
    ·rename_i hm;obtain⟨hm1,hm2,hk12⟩:=hm;simp only[K1]at h;obtain⟨rfl,rfl⟩:=h;obtain⟨p1,p2,hroom⟩:=hp;have hd':dst=some d:=by rw[<-hd,hdst]
     subst hd';have hdN':d<N:=by simpa using hdN
     cases op<;>simp only[I0]at hcop
     case call c=>
      obtain⟨callee,args,ts⟩:=c;simp only at hcop;cases callee with
      | builtin b=>
        cases b<;>simp only[reduceCtorEq]at hcop
        case append=>
         split at hcop
         ·rename_i x0 y0 t0 t1 hx1 ht1;have ea:args = #[x0,y0]:=by cases args;simpa using hx1
          have et:ts = #[t0,t1]:=by cases ts;simpa using ht1
          subst ea;subst et;split at hcop
          ·rename_i e e' x' y' hu hu' hox hoy;split at hcop
           ·rename_i ks' by' d' hk hb hr;split at hcop
            ·rename_i hlen;simp only[W0,AOp.app.injEq]at hcop;obtain⟨rfl,rfl,rfl,rfl,rfl⟩:=hcop;obtain⟨i,zv,hi,hzv,hzc,hsz⟩:=U6 hk;have hzvl:zv.cells.size=i.size:=by
              have:=X0 hzc;simp only[q1Z]at this;omega
             have hby:i.bytes=by':=by
              unfold tby at hb;rw[hi]at hb;simpa using hb
             subst hby;have ex:=A0 (fun j=>hS.sl j) hox p1;have ey:=A0 (fun j=>hS.sl j) hoy p2;obtain⟨v',w',γ',r1,r2,r3,r4⟩:=hS.app (dst:=ky d 0) (ty:=ty) hx hy ex ey (fun k hk1=>by
              have:=q0I.1 hk12 k hk1;simpa using this) hu hu' hi hzv hzvl (by rw[hsz,hlen.1,hm1]) (by rw[hm2,hm1]) hlen.2 hroom (A0F _ _)
             unfold Oper.wp;have hxx:(execOp a.eval ⟨some d,.call ⟨.builtin .append,#[x0,y0],#[t0,t1]⟩,ty,pos,aft,grd⟩).run P w=.ok (.value v') w':=by
              simp only[execOp,resolve,Sem.run_bind,Sem.run_pure,q0V,invoke];rw[show∀cs as,builtin .append #[t0,t1] ty cs as=(do pure (.value (<-Builtin.append_ #[t0,t1] ty as)))from fun _ _=>rfl];have e9:Array.map a.eval #[x0,y0] = #[a.eval x0,a.eval y0]:=by simp
              rw[e9];simp[r1]
             rw[hxx];exact hK _ _ _ (r2.put hdN' (owOk r4 r3))
            ·exact absurd hcop (by simp)
           ·exact absurd hcop (by simp)
          ·exact absurd hcop (by simp)
         ·exact absurd hcop (by simp)
        all_goals(exfalso;revert hcop;(repeat' split)<;>(intro hcop;first|contradiction|(cases hcop;done)))
      | _=>(exfalso;revert hcop;(repeat' split)<;>(intro hcop;first|contradiction|(cases hcop;done)|(obtain⟨y,_,hz⟩:=W7.1 hcop;cases hz;done)))
     all_goals(exfalso;revert hcop;(repeat' split)<;>(intro hcop;first|contradiction|(cases hcop;done)|(obtain⟨y,_,hz⟩:=W7.1 hcop;cases hz;done)))
    ·exact absurd h (by simp)
   ·exact absurd h (by simp)
  ·
   rename_i n x v hop;rw[hop]at hcop;split at h
   ·rename_i p1 k r o' p2 ag l hr1 hr2;split at h
    ·rename_i d rows cs keys hk hown;split at h
     ·rename_i hlen;obtain⟨hlen,hle,hkk,hkl⟩:=hlen;simp only[K1]at h;obtain⟨rfl,rfl⟩:=h;obtain⟨q1,q2,hr⟩:=hp;cases op<;>simp only[I0]at hcop
      case store t y u=>
       split at hcop
       ·rename_i n' x' v' hn hx hu;simp only[W0,AOp.st.injEq]at hcop;obtain⟨rfl,rfl,rfl⟩:=hcop;have e1:=A0 (fun j=>hS.sl j) hx (by rw[hr1];exact q1);have e2:=A0 (fun j=>hS.sl j) hu (by rw[hr2];exact q2);rw[hr1]at e1;rw[hr2]at e2;simp only[AVOk]at e1 e2;obtain⟨vs,hv,hok⟩:=e2.cells;obtain⟨γ0,hS0,hf0,hb0,hv0⟩:=A6I (dp:=Γ.deep) hS hok;obtain⟨b,off,cap,c,e,g1,g2,g3,γ',g4⟩:=hS0.storeOwn (o:=o') hk hr (by rw[hlen];exact hle) hown (by simpa using hkk) hf0;have hk1:st.ow k=some (d,rows):=pre_ow (by simpa using hkl) hk;obtain⟨b',off',n2,cap',g5,g6⟩:=e1 d rows hk1;rw[hv0]at g1;rw[g1]at g5;simp only[Value.slice.injEq,W0,Addr.mk.injEq,q0K]at g5;obtain⟨⟨rfl,rfl⟩,_⟩:=g5;have hvl:vs.length=n':=by
         obtain⟨fp,w1,_⟩:=I3 hS0.toMem hown hf0;rw[RdVals.length w1,hlen]
        have hst:=run_storeCells_at P b (off+(r*d.length+o')) e vs 0 c w g2 z0X hok.one;simp only[q4X]at hst;unfold Oper.wp;have hrun:(execOp a.eval ⟨dst,.store t y u,ty,pos,aft,grd⟩).run P w=.ok .skip (w.setRow b (c.toList.take (off+(r*d.length+o'))++vs++c.toList.drop (off+(r*d.length+o')+vs.length)).toArray):=by
         simp only[execOp,Instr.storeAt,g6,Instr.sureAddr,storeVar,Sem.run_bind,Sem.run_pure,q0V,E0 hn,hv];rw[if_neg z0X];simp only[Sem.run_bind,Sem.run_pure,q0V,hst]
        rw[hrun];have hfin:=g4.puto (d:=ao.dst) (x:=.u) (v:=undef) z1P trivial;rw[hdst]at hfin;exact hK γ' _ _ (by rw[hdst];exact(by rw[A1X];exact hfin))
       ·exact absurd hcop (by simp)
      all_goals(exfalso;revert hcop;(repeat' split)<;>(intro hcop;first|contradiction|(cases hcop;done)|(obtain⟨y,_,hz⟩:=W7.1 hcop;cases hz;done)))
     ·exact absurd h (by simp)
    ·exact absurd h (by simp)
   ·exact absurd h (by simp)
  ·
   rename_i n x lo hi hop;rw[hop]at hcop;split at h
   ·rename_i d q k hd hr;split at h
    ·rename_i z l hk;split at h
     ·rename_i hz;split at h
      ·rename_i p' A D hl;simp only[K1]at h;obtain⟨rfl,rfl⟩:=h;have hd':dst=some d:=by rw[<-hd,hdst]
       subst hd';have hdN':d<N:=by simpa using hdN
       cases op<;>simp only[I0]at hcop
       case slice t y lo0 hi0 mx0=>
        split at hcop
        ·split at hcop
         ·simp only[W0,reduceCtorEq]at hcop
         ·exact absurd hcop (by simp)
        ·rename_i e hu;split at hcop
         ·rename_i n' x' lo' hi' mx' hn hx h1 h2 h3;simp only[W0,AOp.slc.injEq]at hcop;obtain⟨rfl,rfl,rfl,rfl,rfl⟩:=hcop;have emx:mx0=none:=by
           cases mx0 with
           | none=>rfl
           | some m=>simp only[X1]at h3;obtain⟨_,_,hh⟩:=W7.1 h3;cases hh
          subst emx;have e1:=A0 (fun j=>hS.sl j) hx (by rw[hr];exact hp.1);rw[hr]at e1;have e1:=e1.cell;simp only[ACOk]at e1;obtain⟨hrd,hnd⟩:=hS.ow k z l hk;have hks:(st.ow k).isSome=true:=by rw[hk];rfl
          have hrd':=hrd;unfold C.Rd at hrd';obtain⟨ad,cap,ev,hcap,hmax,hrows,_⟩:=hrd';obtain⟨hb,hle,hle2⟩:=A1W (P:=P) (isS:=true) (cap:=cap) h1 h2 (fun j=>hS.sl j) hl hp.2 hcap;rw[ev]at hrd;obtain⟨fp',g1,g2,g3⟩:=own_cut hz hrd hle hle2;have hS1:=(hS.susK k).kill (ky d 0);have hS2:=hS1.newKey (A0F _ _) g1 (g3 hnd) (fun b hb=>(hS.idle_susK hks (g2 b hb)).kill _ _);unfold Oper.wp;have hx:(execOp a.eval ⟨some d,.slice t y lo0 hi0 none,ty,pos,aft,grd⟩).run P w=.ok (.value (.slice (if cap=A then ad else ad.map (·.add (A*n'))) (D-A) (cap-A))) w:=by
           simp only[execOp,e1.2,ev,q5Q,Instr.sliceAt,Sem.run_bind,run_underlying hu,q0V,Instr.slice,hb,E0 hn,Sem.run_pure]
          rw[hx];exact hK _ _ _ (hS2.put hdN' (owOk ⟨_,_,_,rfl⟩ z10))
         ·exact absurd hcop (by simp)
        ·exact absurd hcop (by simp)
       all_goals(exfalso;revert hcop;(repeat' split)<;>(intro hcop;first|contradiction|(cases hcop;done)|(obtain⟨y,_,hz⟩:=W7.1 hcop;cases hz;done)))
      ·exact absurd h (by simp)
     ·exact absurd h (by simp)
    ·exact absurd h (by simp)
   ·exact absurd h (by simp)
  ·exact absurd h z0E
end
section
def A4Q{ty:TypeId}{i:TypeInfo}(ht:P.underlying t=some (.slice e))(hi:P.info? e=some i)(hz:i.zero=some z)(hzl:z.cells.size=i.size)(hsz:i.size=d.length)
   (hF:∀b,F b->b<w.heap.size)  {ad:Option Addr}  {x:Value} {vn:List Value} (hb:C.Rd F w (.sl false d rows) (.slice ad n n) [])
  (hs:Src P i.size tx x ys.length vn w) (hy:C.RdRows F w ys vn []) (hyl:∀r∈ys,r.length=d.length) (hby:0<i.bytes) (hroom:(rows.length+ys.length)*i.bytes<=140737488355328):
  ∃v' w',(Builtin.append_ #[t,tx] ty #[.slice ad n n,x]).run P w=.ok v' w'/\((w'=w/\C.Rd F w (.sl false d (rows++ys)) v' [])\/(Turn (fun _=>False) w w'/\∃fp',C.Rd F w' (.sl true d (rows++ys)) v' fp'/\fp'.Nodup/\∀b∈fp',b<w'.heap.size/\w.heap.size<=b)):=by
 have hmax:rows.length+ys.length<=140737488355328:=q3B (q5W _ hby) hroom;have hvn:=A6 hyl hy;have hb0:=hb;unfold C.Rd at hb;obtain⟨ad',cap,ev,e2,e3,e4,e5⟩:=hb;simp only[Value.slice.injEq]at ev;obtain⟨rfl,rfl,hcap⟩:=ev;subst hcap;simp only[V2,q0M]at e5;by_cases hy0:ys=[]
 ·subst hy0;unfold C.RdRows at hy;obtain⟨rfl,_⟩:=hy;rw[q0A];rcases e5 with h0|⟨b,off,V,rfl,hFb,hat,hrows⟩
  ·subst h0;exact⟨_,w,run_append_nothing (P:=P) w t tx ty e i ht hi ad 0 0 (q0F _) x hs,.inl ⟨rfl,hb0⟩⟩
  ·have hrun:=run_append_room_src (P:=P) w t tx ty e i ht hi b off rows.length rows.length x 0 [] hs z0D (fun j hj=>z2H) (fun j hj=>z2H);exact⟨_,_,hrun,.inl ⟨rfl,hb0⟩⟩
 ·have hylen:0<ys.length:=List.length_pos_iff.2 hy0;have hold:∃olds,(Builtin.firstCells i.size rows.length (.slice ad rows.length rows.length)).run P w.drew=.ok olds.toArray w.drew/\C.RdRows F w rows olds []:=by
   rcases e5 with h0|⟨b,off,V,rfl,hFb,hat,hrows⟩
   ·subst h0;refine⟨[], ?_,z1N⟩;cases ad with
    | none=>simp[Builtin.firstCells]
    | some p=>exact run_firstCells_some w.drew i.size 0 p 0 0 [] z0E (by simp)
   ·refine⟨V,run_firstCells_some w.drew i.size rows.length ⟨b,off,none⟩ _ _ V ?_ ?_,hrows⟩
    ·rw[A6 e4 hrows,hsz]
    ·intro j u hu;obtain⟨hj,rfl⟩:=q0U.1 hu;rw[A0m j];exact hat j hj
  obtain⟨olds,ho1,ho2⟩:=hold;have hgt:rows.length<rows.length+ys.length:=by omega
  have hrun:=run_append_grow_src (P:=P) w t tx ty e i z ht hi hz ad rows.length rows.length olds ho1 x ys.length vn hs hgt z0D (growslice_fits hgt hroom);have hge:=grownCap_ge w (rows.length+ys.length) rows.length e;have hle:=grownCap_le_maxLen w (rows.length+ys.length) rows.length e (by simp[maxLen];omega);have hol:=A6 e4 ho2;generalize hg:grownCap w (rows.length+ys.length) rows.length e=gc at*;have hsame:∀y,y<w.heap.size->((w.drew.alloc (.cells ((olds++vn).toArray++Builtin.zeroCells z.cells (gc-(rows.length+ys.length))) e)).heap[y]? = w.heap[y]?):=fun y hy=>E4 (w:=w.drew) hy
  refine⟨_,_,hrun,.inr ⟨⟨fun y hy _=>hsame y hy,by show w.heap.size<=(w.drew.heap.push _).size;rw[q5C];exact q4V _,rfl,⟨rfl,q4V _⟩,rfl⟩,[w.heap.size], ?_,z0E, ?_⟩⟩
  ·unfold C.Rd;have hnew:(w.drew.alloc (.cells ((olds++vn).toArray++Builtin.zeroCells z.cells (gc-(rows.length+ys.length))) e)).heap[w.heap.size]? = some (.cells ((olds++vn).toArray++Builtin.zeroCells z.cells (gc-(rows.length+ys.length))) e (0,0)):=heap_alloc_new w.drew _;have hj:=O9 (C.RdRows.mono (fun _ h=>h) (fun y hy=>hsame y (hF y hy)) _ _ _ (fun y hy=>by cases hy) ho2) (C.RdRows.mono (fun _ h=>h) (fun y hy=>hsame y (hF y hy)) _ _ _ (fun y hy=>by cases hy) hy);refine⟨_,gc,by rw[V6],by rw[V6];exact hge,hle, ?_,.inr ⟨w.heap.size,0,olds++vn,[],rfl,rfl,⟨_,e,hnew, ?_⟩,A0B (pre:=[]) (post:=(Builtin.zeroCells z.cells (gc-(rows.length+ys.length))).toList) hnew z0E rfl,hj⟩⟩
   ·intro r hr;rcases V0.1 hr with hr|hr
    ·exact e4 r hr
    ·exact hyl r hr
   ·simp only[q3P,q0J,V6,Builtin.zeroCells,Array.size_map,Array.size_range,hol,hvn,hzl,hsz,q3O];have:gc*d.length=(rows.length+ys.length)*d.length+(gc-(rows.length+ys.length))*d.length:=by rw[<-q2C];congr 1;omega
    rw[this,q2C];exact q0F _
  ·intro y hy;rw[q0E.1 hy];refine⟨?_,q0F _⟩;show w.heap.size<(w.drew.heap.push _).size;rw[q5C];exact Nat.lt_succ_self _
def AC.sub_un:∀{x:AC},AC.sub k y (AC.sub k .un x)=AC.sub k .un x
 | .c _=>rfl
 | .nl _=>rfl
 | .cl _ _=>rfl
 | .un=>rfl
 | .cx _ _=>rfl
 | .ow j=>by
   by_cases h:j=k
   ·simp[AC.sub,h]
   ·simp[AC.sub,h]
def A3e(l:List AC):E9 k y (E9 k .un l)=E9 k .un l:=by
 rw[U1,U1,q4L];exact q3C fun x _=>AC.sub_un
def AV.sub_un{k:Nat}{y:AC}:∀{v:AV},AV.sub k y (AV.sub k .un v)=AV.sub k .un v
 | .u=>rfl
 | .v a l=>by simp only[AV.sub,A3e]
 | .tp l=>by
   simp only[AV.sub,A2a,q4L]
   congr 1
   exact q3C fun p _=>by simp only[Function.comp,A3e]
 | .bp _ _=>rfl
 | .fp _=>rfl
 | .op k' r o=>by
   by_cases h:k'=k
   ·simp[AV.sub,h]
   ·simp[AV.sub,h]
 | .ip ag k' r o n=>by
   by_cases h:k'=k
   ·simp[AV.sub,h]
   ·simp[AV.sub,h]
 | .gd g x=>by simp only[AV.sub,AV.sub_un (v:=x)]
def frK_new{z:List C}{R:List (List C)}:((st.sub k .un).setOw k z R).frK k=st.sub k .un:=by
 have h:((st.sub k .un).setOw k z R).ow k=some (z,R):=by simp[St.setOw]
 unfold St.frK;rw[h];simp only[St.sub,St.setOw,St.mk.injEq];refine⟨?_, ?_, ?_⟩
 ·funext j;exact AV.sub_un
 ·funext j
  cases st.bx j with
  | none=>rfl
  | some l=>simp[A3e]
 ·funext j
  by_cases hj:j=k<;>simp[hj]
def Sim.appF{key:Nat}{y:AV}{ad:Option Addr}{u:Value}{d2:List C}(hS:Sim N B γ st a w)(hx:C.Rd γ.F w (.sl false d rows) (.slice ad n n) [])(hy:Y0 st y=some (d2,ys,[]))(hu:AVOk γ st w y u)
  {ty e':TypeId} {i:TypeInfo}  (ht:P.underlying t=some (.slice e)) (htx:P.underlying tx=some (.slice e')) (hi:P.info? e=some i) (hz:i.zero=some z) (hzl:z.cells.size=i.size) (hsz:i.size=d.length) (hd:d2.length=d.length)
  (hby:0<i.bytes) (hroom:(rows.length+ys.length)*i.bytes<=140737488355328) (hk2:key%2=0):
  ∃v' w' γ',(Builtin.append_ #[t,tx] ty #[.slice ad n n,u]).run P w=.ok v' w'/\Sim N B γ' (st.sub key .un) a w'/\C.Rd γ'.F w' (.sl false (C.freeL d) (C.freeRs (rows++ys))) v' []:=by
 obtain⟨vn,fn,m1,m2,m3,m4,m5,m6⟩:=A4H (P:=P) hS.toMem htx (size:=i.size) (hd.trans hsz.symm) hy hu;have hfn:fn=[]:=by
  cases fn with
  | nil=>rfl
  | cons b fn=>obtain⟨k,hk,_⟩:=m4 b z0E;cases hk
 subst hfn;obtain⟨v',w',r1,r2⟩:=A4Q (ty:=ty) ht hi hz hzl hsz hS.Fw hx m1 m2 (fun r hr=>by rw[m6 r hr,hd]) hby hroom;have hS':=hS.kill key;rcases r2 with⟨rfl,r2⟩|⟨hT,fp',r3,r4,r5⟩
 ·refine⟨v',w',γ,r1,hS', ?_⟩;have:=C.Rd.free (F':=γ.F) (fun _ h=>h) _ _ _ (fun b hb=>by cases hb) r2;unfold C.free at this;exact this
 ·have h1:=hS'.newKeyT (v:=v') (fp:=fp') (d:=d) (l:=rows++ys) hk2 ⟨fun b hb hn=>hT.fr b hb (fun h=>h),hT.sz,hT.os,hT.tape,hT.out⟩ r3 r4 (fun b hb=>⟨(r5 b hb).1,.inl (r5 b hb).2⟩);obtain⟨γ2,g1,g2,g3,g4,g5,g6⟩:=h1.frK key;rw[frK_new]at g1;refine⟨v',w',γ2,r1,g1, ?_⟩;have hin:=g6 (by simp[St.setOw]);have:=C.Rd.free (F':=γ2.F) (fun b h=>g5 b h) _ _ _ (fun b hb=>hin b (by simpa[G.key]using hb)) r3;unfold C.free at this;exact this
def A0h(Γ:Ctx)(st:St)(o:AOper):Option (Prop×St):=
 match o.guard with
 | some _=>none
 | none=>match o.op with
   | .app m by_ ks x y=>match o.dst,(rdO st true x).2,Y0 st (rdO st true y).2 with
     | some d,.v false [.cx z rows],some (z2,ys,[])=>if z.length=m/\z2.length=m then
        some ((rdO st true x).1/\(rdO st true y).1/\(rows.length+ys.length)*by_<=140737488355328,(st.sub (ky d 0) .un).put d (.v false [.c (.sl false (C.freeL z) (C.freeRs (rows++ys)))]))else none
     | _,_,_=>none
   | _=>none
def A3x{ao:AOper}(hc:A8 P N ops o=some ao)(hS:Sim N B γ st a w)(h:A0h Γ st ao=some (p,st'))(hp:p)
  {K:Act->World->Prop} {Q:Exit->Act->World->Prop} (hK:∀γ' a' w',Sim N B γ' st' a' w'->K a' w'):
  if Region.wanted o (yielded ops a.tmps)then o.wp P a w K Q\/(o.asks P a w/\LetsOut Q)else K (a.put o.dst undef) w:=by
 obtain⟨hcop,hdst,hdN,hreads,hgd⟩:=E5 hc;unfold A0h at h;split at h
 ·exact absurd h (by simp)
 ·rename_i hg;have hw:=Q1 (g:=true) hc (fun j=>hS.sl j) (by rw[hg];rfl);rw[hw];simp only[if_true];left;obtain⟨dst,op,ty,pos,aft,grd⟩:=o;simp only at hcop hdst hdN;split at h
  ·rename_i m by_ ks x y hop;rw[hop]at hcop;split at h
   ·rename_i d z rows z2 ys hd hx hy;split at h
    ·rename_i hlen;obtain⟨hm1,hm2⟩:=hlen;simp only[K1]at h;obtain⟨rfl,rfl⟩:=h;obtain⟨p1,p2,hroom⟩:=hp;have hd':dst=some d:=by rw[<-hd,hdst]
     subst hd';have hdN':d<N:=by simpa using hdN
     cases op<;>simp only[I0]at hcop
     case call c=>
      obtain⟨callee,args,ts⟩:=c;simp only at hcop;cases callee with
      | builtin b=>
        cases b<;>simp only[reduceCtorEq]at hcop
        case append=>
         split at hcop
         ·rename_i x0 y0 t0 t1 hx1 ht1;have ea:args = #[x0,y0]:=by cases args;simpa using hx1
          have et:ts = #[t0,t1]:=by cases ts;simpa using ht1
          subst ea;subst et;split at hcop
          ·rename_i e e' x' y' hu hu' hox hoy;split at hcop
           ·rename_i ks' by' d' hk hb hr;split at hcop
            ·rename_i hlen;simp only[W0,AOp.app.injEq]at hcop;obtain⟨rfl,rfl,rfl,rfl,rfl⟩:=hcop;obtain⟨i,zv,hi,hzv,hzc,hsz⟩:=U6 hk;have hzvl:zv.cells.size=i.size:=by
              have:=X0 hzc;simp only[q1Z]at this;omega
             have hby:i.bytes=by':=by
              unfold tby at hb;rw[hi]at hb;simpa using hb
             subst hby;have ex:=A0 (fun j=>hS.sl j) hox p1;have ey:=A0 (fun j=>hS.sl j) hoy p2;rw[hx]at ex;have ex:=VOk.cell (show VOk γ st w false _ _ from ex);simp only[ACOk]at ex;obtain⟨ex1,ad,n,ex2⟩:=ex;rw[ex2]at ex1;obtain⟨v',w',γ',r1,r2,r3⟩:=hS.appF (key:=ky d 0) (ty:=ty) ex1 hy ey hu hu' hi hzv hzvl (by rw[hsz,hlen.1,hm1]) (by rw[hm2,hm1]) hlen.2 hroom (A0F _ _);unfold Oper.wp;have hxx:(execOp a.eval ⟨some d,.call ⟨.builtin .append,#[x0,y0],#[t0,t1]⟩,ty,pos,aft,grd⟩).run P w=.ok (.value v') w':=by
              simp only[execOp,resolve,Sem.run_bind,Sem.run_pure,q0V,invoke];rw[show∀cs as,builtin .append #[t0,t1] ty cs as=(do pure (.value (<-Builtin.append_ #[t0,t1] ty as)))from fun _ _=>rfl];have e9:Array.map a.eval #[x0,y0] = #[.slice ad n n,a.eval y0]:=by simp[ex2]
              rw[e9];simp[r1]
             rw[hxx];exact hK _ _ _ (r2.put hdN' (AVOk.mk_cell (by simp only[ACOk];exact r3)))
            ·exact absurd hcop (by simp)
           ·exact absurd hcop (by simp)
          ·exact absurd hcop (by simp)
         ·exact absurd hcop (by simp)
        all_goals(exfalso;revert hcop;(repeat' split)<;>(intro hcop;first|contradiction|(cases hcop;done)))
      | _=>(exfalso;revert hcop;(repeat' split)<;>(intro hcop;first|contradiction|(cases hcop;done)|(obtain⟨y,_,hz⟩:=W7.1 hcop;cases hz;done)))
     all_goals(exfalso;revert hcop;(repeat' split)<;>(intro hcop;first|contradiction|(cases hcop;done)|(obtain⟨y,_,hz⟩:=W7.1 hcop;cases hz;done)))
    ·exact absurd h (by simp)
   ·exact absurd h (by simp)
  ·exact absurd h z0E
end
def A9:Nat->List C->List AC
 | _,[]=>[]
 | b,.sl true d l::cs=>.ow b::A9 (b+2) cs
 | b,c::cs=>(bif c.bor then .c c else .un)::A9 (b+2) cs
def A4(st:St):Nat->List C->St
 | _,[]=>st
 | b,.sl true d l::cs=>((A4 st (b+2) cs).sub b .un).setOw b d l
 | b,c::cs=>A4 st (b+2) cs
def A1f:Nat->List V->List (Bool×List AC)
 | _,[]=>[]
 | b,v::l=>(v.1,A9 b v.2)::A1f (b+2*v.2.length) l
def Q6(st:St):Nat->List V->St
 | _,[]=>st
 | b,v::l=>A4 (Q6 st (b+2*v.2.length) l) b v.2
inductive Hd where
 | no
 | ks (l:List AC) (keys:List Nat)
 | bx (b:Nat) (keys:List Nat)
 | ip (k r o n:Nat)
def susKs:St->List Nat->St
 | st,[]=>st
 | st,k::ks=>susKs (st.susK k) ks
def Hd.sus(st:St):Hd->St
 | .no=>st
 | .ks _ keys=>susKs st keys
 | .bx b keys=>(susKs st keys).susB b
 | .ip k r o n=>match st.ow k with
   | some (d,l)=>(st.dip k).setOw k d (l.set r (I4 (l.getD r d) o (List.replicate n .un)))
   | none=>st
def A3n(dp:Bool)(st:St):AV->Option (V×Hd)
 | .v ag l=>match I2 true dp st l with
   | some (cs,ks)=>some ((ag,cs),.ks l ks)
   | none=>none
 | .bp b 0=>match st.bx b with
   | some l=>match I2 true dp st l with
     | some (cs,ks)=>some ((false,[.mp cs]),.bx b ks)
     | none=>none
   | none=>none
 | .ip ag k r o n=>match st.ow k with
   | some (d,l)=>if 0<n then some ((ag,((l.getD r d).drop o).take n),.ip k r o n)else none
   | none=>none
 | .fp l=>some ((false,[.p l]),.no)
 | _=>none
def O5(dp:Bool)(tk:Nat->Bool):Nat->List AV->St->Option (List (Option V)×List Hd×St)
 | _,[],st=>some ([],[],st)
 | i,av::avs,st=>bif tk i then
    match A3n dp st av with
    | some (v,h)=>match O5 dp tk (i+1) avs (h.sus st)with
      | some (vs,hs,s)=>some (some v::vs,h::hs,s)
      | none=>none
    | none=>none
   else match O5 dp tk (i+1) avs st with
    | some (vs,hs,s)=>some (none::vs,.no::hs,s)
    | none=>none
def Q7(st:St):List AV->List (Option V)->Option (List V×Bool)
 | [],[]=>some ([],true)
 | av::avs,some v::vs=>match Q7 st avs vs with
   | some (l,d)=>some (v::l,d)
   | none=>none
 | av::avs,none::vs=>match av.toV st,Q7 st avs vs with
   | some v,some (l,d)=>some (v::l,av.dat&&d)
   | _,_=>none
 | _,_=>none
def E1:St->List AC->List C->St
 | st,.ow k::l,.sl true d rows::cs=>{ E1 st l cs with sl:=fun j=>((E1 st l cs).sl j).dpp k }.setOw k d rows
 | st,_::l,_::cs=>E1 st l cs
 | st,_,_=>st
def Hd.back(st:St):Hd->V->Option St
 | .no,_=>none
 | .ks l keys,x=>if(F3 l).Nodup/\(F3 l).all (fun k=>!(st.ow k).isSome)=true then some (E1 st l x.2)else none
 | .bx b _,(false,[.mp cs])=>some ((A4 st (64*b) cs).setBx b (A9 (64*b) cs))
 | .bx _ _,_=>none
 | .ip k r o n,x=>match st.ow k with
   | some (d,l)=>if x.2.length=n then some ((st.dip k).setOw k d (l.set r (I4 (l.getD r d) o x.2)))else none
   | none=>none
def A0g:St->List Hd->List (Nat×V)->Option St
 | st,hs,[]=>some st
 | st,hs,[(i,x)]=>(hs.getD i .no).back st x
 | _,_,_=>none
def V.clo(v:V):Bool:=A3q v.2
def R.clo:R->Bool
 | .one v=>V.clo v
 | .tup l=>l.all V.clo
def Q8(st:St):Option Nat->R->St
 | none,_=>st
 | some d,.one (false,[.mp l])=>((A4 st (128*d) l).newBx (2*d) (A9 (128*d) l)).put d (.bp (2*d) 0)
 | some d,.one v=>(A4 st (128*d) v.2).put d (.v v.1 (A9 (128*d) v.2))
 | some d,.tup l=>(Q6 st (128*d) l).put d (.tp (A1f (128*d) l))
def U4(Γ:Ctx)(st:St)(dst:Option Nat)(f:FuncId)(p:Prop)(avs:List AV):Option (Prop×St):=
 match O5 Γ.deep (Γ.tk f) 0 avs st with
 | some (ovs,hs,s1)=>match Q7 s1 avs ovs with
   | some (vs,dat)=>match Γ.ct f vs with
     | some (q,outs,r)=>bif dat||(r.clo&&outs.all fun x=>V.clo x.2)then
        match A0g s1 hs outs with
        | some s2=>some (p/\q,Q8 s2 dst r)
        | none=>none
       else none
     | none=>none
   | none=>none
 | none=>none
def A0i(tk:Nat->Bool):Nat->List AV->List Nat
 | _,[]=>[]
 | i,.v _ l::avs=>bif tk i then A0i tk (i+1) avs else F3 l++A0i tk (i+1) avs
 | i,.ip _ k _ _ _::avs=>bif tk i then A0i tk (i+1) avs else k::A0i tk (i+1) avs
 | i,_::avs=>A0i tk (i+1) avs
def I1(st:St)(l:List Opd):Prop×List AV:=(l.foldr (fun x p=>(rdO st true x).1/\p) True,l.map fun x=>(rdO st true x).2)
def capAV:C->AV
 | .p l=>.fp l
 | c=>.v false [.c c]
def fvOf:AV->Option (FuncId×List AV)
 | .v false [.c (.f g caps)]=>some (g,caps.map capAV)
 | .v false [.cl g xs]=>some (g,xs.map fun x=>.bp x 0)
 | _=>none
def A0X(Γ:Ctx)(st:St)(dst:Option Nat)(f:FuncId)(args:List Opd):Option (Prop×St):=
 match U4 Γ st dst f (I1 st args).1 (I1 st args).2 with
 | some r=>some r
 | none=>U4 Γ (st.frKs (A0i (Γ.tk f) 0 (I1 st args).2)) dst f (I1 (st.frKs (A0i (Γ.tk f) 0 (I1 st args).2)) args).1 (I1 (st.frKs (A0i (Γ.tk f) 0 (I1 st args).2)) args).2
def A1v(Γ:Ctx)(st:St)(dst:Option Nat)(x:Opd)(args:List Opd):Option (Prop×St):=
 match fvOf (rdO st true x).2 with
 | some (f,caps)=>U4 Γ st dst f ((rdO st true x).1/\(I1 st args).1) ((I1 st args).2++caps)
 | none=>none
def Y9(Γ:Ctx)(st:St)(o:AOper):Option (Prop×St):=
 match o.guard with
 | some _=>none
 | none=>match o.op with
   | .call f args=>A0X Γ st o.dst f args
   | .callv x args=>A1v Γ st o.dst x args
   | _=>none
variable{h:Hd}
section
def Idl(B:Base)(γ:G)(st:St)(w:World)(fp:List Nat):Prop:=∀b∈fp,Idle B.M γ st w b
def Tr.refl:Tr no no no no γ st w γ st w:=⟨fun _ _=>rfl,fun _ _=>rfl,fun _ h=>h,fun _ _=>rfl,fun k d l _ _ h=>⟨d,l,h,rfl,fun _=>rfl⟩,fun _ _ _ _ _ _ _ _ _ _ _ _ _=>rfl⟩
def A2b:∀{ks:List Nat} {st:St} (k:Nat),(susKs st ks).ow k=none\/(susKs st ks).ow k=st.ow k
 | [],st,k=>.inr rfl
 | x::ks,st,k=>by
   simp only[susKs];rcases A2b (ks:=ks) (st:=st.susK x) k with h|h
   ·exact .inl h
   ·rw[h];simp only[St.susK];split
    ·exact .inl rfl
    ·exact .inr rfl
def Sim.susKs:∀{ks:List Nat} {st:St},Sim N B γ st a w->Sim N B γ (Aw.susKs st ks) a w
 | [],st,h=>h
 | k::ks,st,h=>Sim.susKs (ks:=ks) (h.susK k)
def Idle.susKs{b:Nat}:∀{ks:List Nat} {st:St},Idle B.M γ st w b->Idle B.M γ (Aw.susKs st ks) w b
 | [],st,h=>h
 | k::ks,st,h=>Idle.susKs (ks:=ks) (h.susK k)
def Sim.idle_susKs{k b:Nat}:∀{ks:List Nat} {st:St},Sim N B γ st a w->k∈ks->(st.ow k).isSome=true->b∈γ.f k->Idle B.M γ (Aw.susKs st ks) w b
 | [],st,hS,hk,_,_=>by cases hk
 | x::ks,st,hS,hk,hs,hb=>by
   simp only[Aw.susKs];by_cases e:k=x
   ·subst e;exact(hS.idle_susK hs hb).susKs
   ·refine Sim.idle_susKs (hS.susK x) (by simpa[e]using hk) ?_ hb;simp only[St.susK];rw[if_neg e];exact hs
def A0K:∀{ks:List Nat} {st:St},(susKs st ks).bx=st.bx
 | [],st=>rfl
 | k::ks,st=>by simp only[susKs];rw[A0K];rfl
def A4O:∀{vs:List Value},(∀v∈vs,v.oneCell'=true)->∀{F:Nat->Prop},C.RdVals F w (List.replicate vs.length .un) vs []
 | [],_,F=>by simp[C.RdVals]
 | v::vs,h,F=>by
   simp only[V9,q5P];unfold C.RdVals;exact⟨v,vs,[],[],rfl,rfl,by unfold C.Rd;exact⟨rfl,A6E (h v z0E)⟩,A4O (fun u hu=>h u (by simp[hu]))⟩
def HdOk(γ:G)(st:St)(w:World):Hd->Value->Prop
 | .no,_=>True
 | .ks l _,v=>∃vs,v.cells=vs.toArray/\ACsOk γ st w l vs
 | .bx b _,v=>v=.pointer (some ⟨γ.β b,0,none⟩)/\st.bx b=none
 | .ip k r o n,v=>∃ag,0<n/\AVOk γ st w (.ip ag k r o n) v
def A2m{x:V}(h:VRd F w x v fp):∃vs,v.cells=vs.toArray/\C.RdVals F w x.2 vs fp:=by
 obtain⟨ag,l⟩:=x;unfold VRd at h;cases ag with
 | true=>obtain⟨vs,e,h⟩:=h;exact⟨vs,by rw[e];rfl,h⟩
 | false=>
   obtain⟨c,e,h⟩:=h;simp only at e;subst e;refine⟨[v], ?_,by unfold C.RdVals;exact⟨v,[],fp,[],rfl,z0E,h,z0W⟩⟩;have:=A1n h;cases v<;>first|rfl|simp[Value.oneCell']at this
def argO_ok{av:AV}{x:V}(hS:Sim N B γ st a w)(ha:A3n dp st av=some (x,h))(hv:AVOk γ st w av v):
  ∃γ1 fp,Sim N B γ1 (h.sus st) a w/\γ1.F=γ.F/\γ1.v=γ.v/\γ1.β=γ.β/\VRd γ.F w x v fp/\fp.Nodup/\Idl B γ1 (h.sus st) w fp/\HdOk γ1 (h.sus st) w h v/\(∀b,Idle B.M γ st w b->Idle B.M γ1 (h.sus st) w b/\b∉fp)/\Tr no no no no γ st w γ1 (h.sus st) w:=by
 unfold A3n at ha;split at ha
 ·rename_i ag l;split at ha
  ·rename_i cs ks hc;simp only[K1]at ha;obtain⟨rfl,rfl⟩:=ha;simp only[AVOk]at hv;obtain⟨fp,g1,g2,g3,g4⟩:=A4I hS.toMem hc hv;simp only[Hd.sus];have T:Tr no no no no γ st w γ (susKs st ks) w:=Tr.fewer (fun k=>A2b k);refine⟨γ,fp,hS.susKs,rfl,rfl,rfl,g1,g2,fun b hb=>?_, ?_,fun b hb=>⟨hb.susKs,fun hf=>?_⟩,T⟩
   ·obtain⟨k,hk,hb⟩:=g3 b hb;exact hS.idle_susKs hk (g4 k hk) hb
   ·obtain⟨vs,e,h⟩:=VOk.cells hv;exact⟨vs,e,h.tr T (fun _ _=>AC.fr_no)⟩
   ·obtain⟨k,hk,hb'⟩:=g3 b hf;exact hb.ow k (g4 k hk) hb'
  ·exact absurd ha (by simp)
 ·rename_i b;split at ha
  ·rename_i l hb;split at ha
   ·rename_i cs ks hc;simp only[K1]at ha;obtain⟨rfl,rfl⟩:=ha;simp only[AVOk]at hv;obtain⟨c,e,hh,hok⟩:=hS.bx b l hb;obtain⟨fp,g1,g2,g3,g4⟩:=I3 hS.toMem hc hok;have hbs:(st.bx b).isSome=true:=by rw[hb];rfl
    simp only[Hd.sus];have how:∀k,((susKs st ks).susB b).ow k=none\/((susKs st ks).susB b).ow k=st.ow k:=fun k=>A2b k
    have T:Tr no no no no γ st w γ ((susKs st ks).susB b) w:=Tr.fewer how;have hS1:=hS.susKs (ks:=ks);refine⟨γ,γ.β b::fp,hS1.susB b,rfl,rfl,rfl, ?_, ?_, ?_,⟨hv,by simp[St.susB]⟩,fun x hx=>⟨hx.susKs.susB b, ?_⟩,T⟩
    ·unfold VRd;refine⟨_,rfl, ?_⟩;unfold C.Rd;exact⟨γ.β b,c,e,fp,hv,rfl,hh,g1⟩
    ·refine q1Q.2 ⟨fun h=>?_,g2⟩;obtain⟨k,hk,hb'⟩:=g3 _ h;exact(hS.owM k (g4 k hk) _ hb').2.2.2 b hbs rfl
    ·intro x hx;rcases q0B.1 hx with rfl|hx
     ·exact hS1.idle_susB (by rw[A0K];exact hbs)
     ·obtain⟨k,hk,hb'⟩:=g3 x hx;exact(hS.idle_susKs hk (g4 k hk) hb').susB b
    ·intro hf;rcases q0B.1 hf with rfl|hf
     ·exact hx.bx b hbs rfl
     ·obtain⟨k,hk,hb'⟩:=g3 x hf;exact hx.ow k (g4 k hk) hb'
   ·exact absurd ha (by simp)
  ·exact absurd ha (by simp)
 ·rename_i ag k r o n;split at ha
  ·rename_i d l hk;split at ha
   ·rename_i hn;simp only[K1]at ha;obtain⟨rfl,rfl⟩:=ha;obtain⟨b,off,len,cap,vs,f1,f2,f3,h1,h2,h3,h4,h5,h6,h7,h8,h9,h10⟩:=ip_ok hS.toMem hk hv hn;have hks:(st.ow k).isSome=true:=by rw[hk];rfl
    obtain⟨_,hnd⟩:=hS.ow k d l hk;rw[h2]at hnd;have hun:=A4O (F:=γ.F) (X6 h6) (w:=w);rw[h5]at hun;have hw:=h10 γ.F w (List.replicate n .un) [] z0E (fun _ h=>h) (fun _ _=>rfl) (fun _ _=>rfl) hun;have hsub:∀x∈f1++([]++f3),x∈γ.f k:=by
     rw[h2];intro x hx;simp only[q1J,V0]at hx ⊢;rcases hx with h|h
     ·exact .inl h
     ·exact .inr (.inr h)
    have hS1:=hS.turnKey (d':=d) (l':=l.set r (I4 (l.getD r []) o (List.replicate n .un))) (w':=w) hk ⟨fun _ _ _=>rfl,q0F _,rfl,Tp.of rfl rfl,rfl⟩ rfl hw (by
     have:=hnd;simp only[q1J];rw[q0Q]at this ⊢;exact⟨this.1,(q0Q.1 this.2.1).2.1,fun x hx y hy=>this.2.2 x hx y z0T⟩) (fun x hx=>.inl (hsub x hx))
    have hsus:Hd.sus st (.ip k r o n)=(st.dip k).setOw k d (l.set r (I4 (l.getD r []) o (List.replicate n .un))):=by simp only[Hd.sus,hk];rw[A1X]
    rw[hsus];have T:Tr no no no no γ st w { γ with f:=fun k'=>if k'=k then f1++([]++f3)else γ.f k' } ((st.dip k).setOw k d (l.set r (I4 (l.getD r []) o (List.replicate n .un)))) w:=by
     refine⟨fun _ _=>rfl,fun _ _=>rfl,fun _ h=>h,fun _ _=>rfl,fun k2 d2 l2 _ _ h=>?_,fun _ _ _ _ _ _ _ _ _ _ _ _ _=>rfl⟩;simp only[St.setOw,St.dip]at h;split at h
     ·rename_i e;subst e;simp only[K1]at h;obtain⟨rfl,rfl⟩:=h;exact⟨d,l,hk,rfl,fun _=>z0E⟩
     ·exact⟨d2,l2,h,rfl,fun _=>rfl⟩
    have hidle:∀x,(x∈f2\/Idle B.M γ st w x)->Idle B.M { γ with f:=fun k'=>if k'=k then f1++([]++f3)else γ.f k' } ((st.dip k).setOw k d (l.set r (I4 (l.getD r []) o (List.replicate n .un)))) w x:=by
     rintro x (hx|hx)
     ·have hxk:x∈γ.f k:=by rw[h2];simp[hx]
      obtain⟨q1,q2,q3,q4⟩:=hS.owM k hks x hxk;refine⟨q1,q2,q3,q4,fun k' hk' hb'=>?_⟩;by_cases e:k'=k
      ·subst e;simp only[if_true,q1J]at hb';have:=q0Q.1 hnd;rcases V0.1 hb' with hb'|hb'
       ·exact this.2.2 x hb' x z0N rfl
       ·exact(q0Q.1 this.2.1).2.2 x hx x hb' rfl
      ·simp only[if_neg e]at hb';have hk2:(st.ow k').isSome=true:=by simpa[St.setOw,St.dip,e]using hk'
       exact hS.owI k k' hks hk2 (Ne.symm e) x hxk hb'
     ·refine⟨hx.m,hx.f,hx.lt,hx.bx,fun k' hk' hb'=>?_⟩;by_cases e:k'=k
      ·subst e;simp only[if_true]at hb';exact hx.ow k' hks (hsub x hb')
      ·simp only[if_neg e]at hb';exact hx.ow k' (by simpa[St.setOw,St.dip,e]using hk') hb'
    refine⟨_,f2,hS1,rfl,rfl,rfl, ?_, ?_,fun x hx=>hidle x (.inl hx),⟨ag,hn,hv.tr T AV.fr_no⟩,fun x hx=>⟨hidle x (.inr hx),fun hf=>hx.ow k hks (by rw[h2];simp[hf])⟩,T⟩
    ·unfold VRd;cases ag with
     | true=>exact⟨vs,h9,h6⟩
     | false=>
       simp only at h9;subst h9;have hl:=RdVals.length h6
       match hc:((l.getD r d).drop o).take n,h6,hl with
       | [c],h6,_=>
         unfold C.RdVals at h6;obtain⟨v',r',f1',f2',e1,e2,e3,e4⟩:=h6;unfold C.RdVals at e4;simp only[V4]at e1;obtain⟨rfl,_⟩:=e1;obtain⟨_,rfl⟩:=e4;rw[q0A]at e2;subst e2;exact⟨c,by simp[hc],e3⟩
    ·have:=q0Q.1 hnd;exact(q0Q.1 this.2.1).1
   ·exact absurd ha (by simp)
  ·exact absurd ha (by simp)
 ·rename_i l;simp only[K1]at ha;obtain⟨rfl,rfl⟩:=ha;simp only[AVOk]at hv;obtain⟨b,o,vs,e,hF,hca,hrd⟩:=hv;simp only[Hd.sus];refine⟨γ,[],hS,rfl,rfl,rfl, ?_,q0Z,(fun b hb=>(by cases hb)),trivial,(fun b hb=>⟨hb,z0E⟩),Tr.refl⟩;unfold VRd;refine⟨_,rfl, ?_⟩;unfold C.Rd;exact⟨rfl,b,o,vs,e,hF,hca,hrd⟩
 ·exact absurd ha z0E
def AVsOk(γ:G)(st:St)(w:World):List AV->List Value->Prop
 | [],us=>us=[]
 | av::l,us=>∃u r,us=u::r/\AVOk γ st w av u/\AVsOk γ st w l r
def A2M(F:Nat->Prop)(w:World):List (Option V)->List Value->List Nat->Prop
 | [],us,fp=>us=[]/\fp=[]
 | some v::l,us,fp=>∃u r f1 f2,us=u::r/\fp=f1++f2/\VRd F w v u f1/\A2M F w l r f2
 | none::l,us,fp=>∃u r,us=u::r/\A2M F w l r fp
def HdsOk(γ:G)(st:St)(w:World):List Hd->List Value->Prop
 | [],_=>True
 | h::hs,us=>HdOk γ st w h (us.getD 0 undef)/\HdsOk γ st w hs (us.drop 1)
def AVsOk.tr{γ':G}{st':St}{w':World}(T:Tr no no no no γ st w γ' st' w'):∀{l:List AV} {us:List Value},AVsOk γ st w l us->AVsOk γ' st' w' l us
 | [],us,h=>h
 | av::l,us,h=>by
   unfold AVsOk at*;obtain⟨u,r,e,h1,h2⟩:=h;exact⟨u,r,e,h1.tr T AV.fr_no,AVsOk.tr T h2⟩
def HdOk.tr{w':World}(T:Tr no no no no γ st w γ' st' w')(hb:∀x,st.bx x=none->st'.bx x=none)(hh:HdOk γ st w h v):HdOk γ' st' w' h v:=by
 cases h with
 | no=>trivial
 | ks l keys=>obtain⟨vs,e,h⟩:=hh;exact⟨vs,e,h.tr T (fun _ _=>AC.fr_no)⟩
 | bx b keys=>exact⟨by rw[T.β b id];exact hh.1,hb _ hh.2⟩
 | ip k r o n=>obtain⟨ag,hn,h⟩:=hh;exact⟨ag,hn,h.tr T AV.fr_no⟩
def HdsOk.tr{γ':G}{st':St}{w':World}(T:Tr no no no no γ st w γ' st' w')(hb:∀x,st.bx x=none->st'.bx x=none):∀{l:List Hd} {us:List Value},HdsOk γ st w l us->HdsOk γ' st' w' l us
 | [],us,h=>trivial
 | h::l,us,hh=>⟨hh.1.tr T hb,HdsOk.tr T hb hh.2⟩
def HdsOk.at:∀{l:List Hd} {us:List Value} (i:Nat),HdsOk γ st w l us->HdOk γ st w (l.getD i .no) (us.getD i undef)
 | [],us,i,h=>by simp[HdOk]
 | x::l,us,0,h=>by simpa using h.1
 | x::l,us,i+1,h=>by
   have:=HdsOk.at i h.2;simp only[q1U];cases us with
   | nil=>simpa using this
   | cons u us=>simpa using this
def sus_bx(hx:st.bx x=none):(h.sus st).bx x=none:=by
 cases h with
 | no=>exact hx
 | ks l keys=>simp only[Hd.sus];rw[A0K];exact hx
 | bx b keys=>simp only[Hd.sus,St.susB,A0K];split<;>first|rfl|exact hx
 | ip k r o n=>simp only[Hd.sus];split<;>exact hx
def A1B{dp:Bool}{tk:Nat->Bool}:∀{avs:List AV} {i:Nat} {st:St} {ovs:List (Option V)} {hs:List Hd} {s1:St} {x:Nat},O5 dp tk i avs st=some (ovs,hs,s1)->st.bx x=none->s1.bx x=none
 | [],i,st,ovs,hs,s1,x,h,hx=>by
   simp only[O5,K1]at h;rw[<-h.2.2];exact hx
 | av::avs,i,st,ovs,hs,s1,x,h,hx=>by
   simp only[O5]at h;cases ht:tk i with
   | true=>
     simp only[ht,W8]at h;split at h
     ·split at h
      ·rename_i hh;simp only[K1]at h;rw[<-h.2.2];exact A1B hh (sus_bx hx)
      ·exact absurd h (by simp)
     ·exact absurd h (by simp)
   | false=>
     simp only[ht,V2]at h;split at h
     ·rename_i hh;simp only[K1]at h;rw[<-h.2.2];exact A1B hh hx
     ·exact absurd h z0E
def A2U{dp:Bool}{tk:Nat->Bool}:∀{avs:List AV} {i:Nat} {γ:G} {st:St} {ovs:List (Option V)} {hs:List Hd} {s1:St} {us:List Value},Sim N B γ st a w->O5 dp tk i avs st=some (ovs,hs,s1)->AVsOk γ st w avs us->
  ∃γ1 fp,Sim N B γ1 s1 a w/\γ1.F=γ.F/\γ1.v=γ.v/\γ1.β=γ.β/\A2M γ.F w ovs us fp/\fp.Nodup/\Idl B γ1 s1 w fp/\HdsOk γ1 s1 w hs us/\(∀b,Idle B.M γ st w b->Idle B.M γ1 s1 w b/\b∉fp)/\Tr no no no no γ st w γ1 s1 w
 | [],i,γ,st,ovs,hs,s1,us,hS,h,hv=>by
   simp only[O5,K1]at h;obtain⟨rfl,rfl,rfl⟩:=h;exact⟨γ,[],hS,rfl,rfl,rfl,⟨hv,rfl⟩,q0Z,(fun b hb=>(by cases hb)),trivial,(fun b hb=>⟨hb,z0E⟩),Tr.refl⟩
 | av::avs,i,γ,st,ovs,hs,s1,us,hS,h,hv=>by
   unfold AVsOk at hv;obtain⟨u,r,rfl,h1,h2⟩:=hv;simp only[O5]at h;cases ht:tk i with
   | true=>
     simp only[ht,W8]at h;split at h
     ·rename_i v hd hA;split at h
      ·rename_i vs hs' s hH;simp only[K1]at h;obtain⟨rfl,rfl,rfl⟩:=h;obtain⟨γa,f1,a1,a2,a3,a4,a5,a6,a7,a8,a9,a10⟩:=argO_ok hS hA h1;obtain⟨γb,f2,b1,b2,b3,b4,b5,b6,b7,b8,b9,b10⟩:=A2U a1 hH (h2.tr a10);have T:Tr no no no no γ st w γb s w:=by
        refine⟨fun x hx=>by rw[b10.β x hx,a10.β x hx],fun x hx=>by rw[b10.v x hx,a10.v x hx],fun b hb=>b10.F b (a10.F b hb),fun _ _=>rfl,fun k d l q1 q2 hk=>?_,fun _ _ _ _ _ _ _ _ _ _ _ _ _=>rfl⟩;obtain⟨d',l',e1,e2,e3⟩:=b10.o k d l q1 q2 hk;obtain⟨d2,l2,e4,e5,e6⟩:=a10.o k d' l' q1 q2 e1;exact⟨d2,l2,e4,e5.trans e2,fun hx=>(e6 hx).trans (e3 hx)⟩
       refine⟨γb,f1++f2,b1,b2.trans a2,b3.trans a3,b4.trans a4, ?_, ?_, ?_, ?_, ?_,T⟩
       ·unfold A2M;exact⟨u,r,f1,f2,rfl,rfl,a5,by rw[<-a2];exact b5⟩
       ·refine q0Q.2 ⟨a6,b6, ?_⟩;intro x hx y hy e;subst e;exact(b9 x (a7 x hx)).2 hy
       ·intro b hb;rcases V0.1 hb with hb|hb
        ·exact(b9 b (a7 b hb)).1
        ·exact b7 b hb
       ·unfold HdsOk;exact⟨by simpa using a8.tr b10 (fun x hx=>A1B hH hx),by simpa using b8⟩
       ·intro b hb;obtain⟨q1,q2⟩:=a9 b hb;obtain⟨q3,q4⟩:=b9 b q1;exact⟨q3,by simp[q2,q4]⟩
      ·exact absurd h (by simp)
     ·exact absurd h (by simp)
   | false=>
     simp only[ht,V2]at h;split at h
     ·rename_i vs hs' s hH;simp only[K1]at h;obtain⟨rfl,rfl,rfl⟩:=h;obtain⟨γb,f2,b1,b2,b3,b4,b5,b6,b7,b8,b9,b10⟩:=A2U hS hH h2;refine⟨γb,f2,b1,b2,b3,b4, ?_,b6,b7, ?_,b9,b10⟩
      ·unfold A2M;exact⟨u,r,rfl,b5⟩
      ·unfold HdsOk;exact⟨trivial,by simpa using b8⟩
     ·exact absurd h z0E
def VRd.mono{F':Nat->Prop}{w':World}(hF:∀b,F b->F' b)(hS:Q2 w w' F){x:V}(hf:Q2 w w' (·∈fp))(h:VRd F w x v fp):VRd F' w' x v fp:=by
 obtain⟨ag,l⟩:=x;unfold VRd at*;cases ag with
 | true=>obtain⟨vs,e,h⟩:=h;exact⟨vs,e,C.RdVals.mono hF hS _ _ _ hf h⟩
 | false=>obtain⟨c,e,h⟩:=h;exact⟨c,e,C.Rd.mono hF hS _ _ _ hf h⟩
def A2W(hm:Mem B γ st w){F:Nat->Prop}(hF:∀b,F b->γ.F b):∀{avs:List AV} {ovs:List (Option V)} {vs:List V} {d:Bool} {us:List Value} {fp:List Nat},Q7 st avs ovs=some (vs,d)->AVsOk γ st w avs us->A2M F w ovs us fp->
  VsRd (FB γ st) w vs us fp/\(d=true->VsRd γ.F w vs us fp)
 | [],[],vs,d,us,fp,h,hv,ho=>by
   simp only[Q7,K1]at h;obtain⟨rfl,rfl⟩:=h;unfold A2M at ho;unfold VsRd;exact⟨ho,fun _=>ho⟩
 | av::avs,some v::ovs,vs,d,us,fp,h,hv,ho=>by
   simp only[Q7]at h;split at h
   ·rename_i l d' hl;simp only[K1]at h;obtain⟨rfl,rfl⟩:=h;unfold AVsOk at hv;obtain⟨u,r,rfl,h1,h2⟩:=hv;unfold A2M at ho;obtain⟨u',r',f1,f2,e1,e2,h3,h4⟩:=ho;simp only[V4]at e1;obtain⟨rfl,rfl⟩:=e1;obtain⟨i1,i2⟩:=A2W hm hF hl h2 h4;unfold VsRd;exact⟨⟨u,r,f1,f2,rfl,e2,h3.mono (fun b hb=>.inl (hF b hb)) (fun _ _=>rfl) (fun _ _=>rfl),i1⟩,fun hd=>⟨u,r,f1,f2,rfl,e2,h3.mono hF (fun _ _=>rfl) (fun _ _=>rfl),i2 hd⟩⟩
   ·exact absurd h (by simp)
 | av::avs,none::ovs,vs,d,us,fp,h,hv,ho=>by
   simp only[Q7]at h;split at h
   ·rename_i v l d' ht hl;simp only[K1]at h;obtain⟨rfl,rfl⟩:=h;unfold AVsOk at hv;obtain⟨u,r,rfl,h1,h2⟩:=hv;unfold A2M at ho;obtain⟨u',r',e1,h4⟩:=ho;simp only[V4]at e1;obtain⟨rfl,rfl⟩:=e1;obtain⟨i1,i2⟩:=A2W hm hF hl h2 h4;unfold VsRd;refine⟨⟨u,r,[],fp,rfl,rfl,A7d hm ht h1,i1⟩,fun hd=>?_⟩;simp only[W3]at hd;exact⟨u,r,[],fp,rfl,rfl,A4N ht hd.1 h1,i2 hd.2⟩
   ·exact absurd h (by simp)
 | [],_::_,vs,d,us,fp,h,_,_=>by simp[Q7]at h
 | _::_,[],vs,d,us,fp,h,_,_=>by simp[Q7]at h
end
section
mutual
def C.Rd.clo{F F':Nat->Prop}:∀(c:C) (v:Value) (fp:List Nat),c.clo=true->C.Rd F w c v fp->C.Rd F' w c v fp
 | .b x,v,fp,_,h=>by unfold C.Rd at*;exact h
 | .i k n,v,fp,_,h=>by unfold C.Rd at*;exact h
 | .s x,v,fp,_,h=>by unfold C.Rd at*;exact h
 | .un,v,fp,_,h=>by unfold C.Rd at*;exact h
 | .p l,v,fp,e,h=>by unfold C.clo at e;cases e
 | .f g l,v,fp,e,h=>by unfold C.clo at e;cases e
 | .mp l,v,fp,e,h=>by
   unfold C.clo at e;unfold C.Rd at*;obtain⟨b,c,t,fp',h1,h2,h3,h4⟩:=h;exact⟨b,c,t,fp',h1,h2,h3,C.RdVals.clo l _ _ e h4⟩
 | .sl u d l,v,fp,e,h=>by
   unfold C.clo at e;simp only[W3]at e;obtain⟨e1,e2⟩:=e;subst e1;unfold C.Rd at*;obtain⟨ad,cap,h1,h2,h3,h4,h5⟩:=h;refine⟨ad,cap,h1,h2,h3,h4, ?_⟩;simp only[W8]at*;rcases h5 with h5|⟨b,o,vs,fp',g1,g2,g3,g4,g5⟩
   ·exact .inl h5
   ·exact .inr ⟨b,o,vs,fp',g1,g2,g3,g4,C.RdRows.clo l _ _ e2 g5⟩
def C.RdVals.clo{F F':Nat->Prop}:∀(l:List C) (vs:List Value) (fp:List Nat),A3q l=true->C.RdVals F w l vs fp->C.RdVals F' w l vs fp
 | [],vs,fp,_,h=>by unfold C.RdVals at*;exact h
 | c::l,vs,fp,e,h=>by
   unfold A3q at e;simp only[W3]at e;unfold C.RdVals at*;obtain⟨v,r,f1,f2,h1,h2,h3,h4⟩:=h;exact⟨v,r,f1,f2,h1,h2,C.Rd.clo c v f1 e.1 h3,C.RdVals.clo l r f2 e.2 h4⟩
def C.RdRows.clo{F F':Nat->Prop}:∀(l:List (List C)) (vs:List Value) (fp:List Nat),A3r l=true->C.RdRows F w l vs fp->C.RdRows F' w l vs fp
 | [],vs,fp,_,h=>by unfold C.RdRows at*;exact h
 | r::l,vs,fp,e,h=>by
   unfold A3r at e;simp only[W3]at e;unfold C.RdRows at*;obtain⟨v1,v2,f1,f2,h1,h2,h3,h4⟩:=h;exact⟨v1,v2,f1,f2,h1,h2,C.RdVals.clo r v1 f1 e.1 h3,C.RdRows.clo l v2 f2 e.2 h4⟩
end
def VRd.clo{F':Nat->Prop}{x:V}(e:V.clo x=true)(h:VRd F w x v fp):VRd F' w x v fp:=by
 obtain⟨ag,l⟩:=x;unfold VRd at*;unfold V.clo at e;cases ag with
 | true=>obtain⟨vs,e',h⟩:=h;exact⟨vs,e',C.RdVals.clo _ _ _ e h⟩
 | false=>
   obtain⟨c,e',h⟩:=h;simp only at e';subst e';unfold A3q at e;simp only[W3]at e;exact⟨c,rfl,C.Rd.clo _ _ _ e.1 h⟩
def VsRd.clo{F F':Nat->Prop}:∀{l:List V} {vs:List Value} {fp:List Nat},l.all V.clo=true->VsRd F w l vs fp->VsRd F' w l vs fp
 | [],vs,fp,_,h=>by unfold VsRd at*;exact h
 | x::l,vs,fp,e,h=>by
   simp only[q2T,W3]at e;unfold VsRd at*;obtain⟨v,r,f1,f2,h1,h2,h3,h4⟩:=h;exact⟨v,r,f1,f2,h1,h2,h3.clo e.1,VsRd.clo e.2 h4⟩
def RRd.clo{F':Nat->Prop}(e:r.clo=true)(h:RRd F w r v fp):RRd F' w r v fp:=by
 cases r with
 | one x=>exact VRd.clo (x:=x) e h
 | tup l=>unfold RRd at*;obtain⟨vs,e',h⟩:=h;exact⟨vs,e',VsRd.clo e h⟩
def OutRd.clo{F F':Nat->Prop}{vs:List Value}:∀{l:List (Nat×V)} {fp:List Nat},(l.all fun x=>V.clo x.2)=true->OutRd F w vs l fp->OutRd F' w vs l fp
 | [],fp,_,h=>h
 | (i,x)::l,fp,e,h=>by
   simp only[q2T,W3]at e;unfold OutRd at*;obtain⟨f1,f2,h1,h2,h3⟩:=h;exact⟨f1,f2,h1,h2.clo e.1,OutRd.clo e.2 h3⟩
def A1E:∀{l:List C} {b:Nat} {γ:G} {st:St} {vs:List Value} {fp:List Nat},b%2=0->Sim N B γ st a w->C.RdVals γ.F w l vs fp->fp.Nodup->Idl B γ st w fp->
  ∃γ',Sim N B γ' (A4 st b l) a w/\γ'.F=γ.F/\γ'.β=γ.β/\ACsOk γ' (A4 st b l) w (A9 b l) vs/\(∀x,Idle B.M γ st w x->x∉fp->Idle B.M γ' (A4 st b l) w x)/\Tr no no no (fun k=>b<=k/\k<b+2*l.length) γ st w γ' (A4 st b l) w
 | [],b,γ,st,vs,fp,hb,hS,h,hnd,hi=>by
   unfold C.RdVals at h;obtain⟨rfl,rfl⟩:=h;simp only[A4,A9];exact⟨γ,hS,rfl,rfl,by unfold ACsOk;rfl,fun x hx _=>hx,⟨fun _ _=>rfl,fun _ _=>rfl,fun _ h=>h,fun _ _=>rfl,fun k d l _ _ h=>⟨d,l,h,rfl,fun _=>rfl⟩,fun _ _ _ _ _ _ _ _ _ _ _ _ _=>rfl⟩⟩
 | c::cs,b,γ,st,vs,fp,hb,hS,h,hnd,hi=>by
   unfold C.RdVals at h;obtain⟨v,r,f1,f2,rfl,rfl,h1,h2⟩:=h;obtain⟨hn1,hn2,hn3⟩:=q0Q.1 hnd;obtain⟨γ1,g1,g2,g3,g4,g5,g6⟩:=A1E (l:=cs) (b:=b+2) z0D hS h2 hn2 (fun x hx=>hi x z0N);have plain:A4 st b (c::cs)=A4 st (b+2) cs->A9 b (c::cs)=(bif c.bor then .c c else .un)::A9 (b+2) cs->
     ∃γ',Sim N B γ' (A4 st b (c::cs)) a w/\γ'.F=γ.F/\γ'.β=γ.β/\ACsOk γ' (A4 st b (c::cs)) w (A9 b (c::cs)) (v::r)/\(∀x,Idle B.M γ st w x->x∉f1++f2->Idle B.M γ' (A4 st b (c::cs)) w x)/\Tr no no no (fun k=>b<=k/\k<b+2*(c::cs).length) γ st w γ' (A4 st b (c::cs)) w:=by
    intro e1 e2;rw[e1,e2];refine⟨γ1,g1,g2,g3, ?_,fun x hx hf=>g5 x hx (fun h=>hf z0Y),⟨g6.β,fun k hk=>g6.v k (fun h=>hk ⟨z0D,z04⟩),g6.F,g6.S,fun k d l hk hq=>g6.o k d l (fun h=>hk ⟨z0D,z04⟩) hq,fun _ _ _ _ _ _ _ _ _ _ _ _ _=>rfl⟩⟩;unfold ACsOk;refine⟨v,r,rfl, ?_,g4⟩;cases hbor:c.bor with
    | true=>
      simp only[W8,ACOk];have:=A1m _ _ _ hbor h1;subst this;rw[g2];exact h1
    | false=>
      simp only[V2,ACOk];exact A6E (A1n h1)
   cases c with
   | sl u d rows=>
     cases u with
     | false=>exact plain (by simp only[A4]) (by simp only[A9])
     | true=>
       simp only[A4,A9];have hS2:=g1.kill b;have hi1:∀x∈f1,Idle B.M γ1 (A4 st (b+2) cs) w x:=fun x hx=>g5 x (hi x z0N) (fun h=>hn3 x hx x h rfl)
       have hS3:=hS2.newKey hb (by rw[g2];exact h1) hn1 (fun x hx=>(hi1 x hx).kill b .un);have T2:Tr no no no (· = b) γ1 (A4 st (b+2) cs) w (γ1.key b v f1) (((A4 st (b+2) cs).sub b .un).setOw b d rows) w:=by
        refine⟨fun _ _=>rfl,fun k hk=>by simp only[G.key];rw[if_neg hk],fun _ h=>h,fun _ _=>rfl,fun k d' l' hk _ h=>?_,fun _ _ _ _ _ _ _ _ _ _ _ _ _=>rfl⟩;simp only[St.setOw,J3]at h;rw[if_neg hk,if_neg hk]at h;exact⟨d',l',h,rfl,fun _=>rfl⟩
       refine⟨γ1.key b v f1,hS3,g2,g3, ?_, ?_, ?_⟩
       ·unfold ACsOk;refine⟨v,r,rfl, ?_,g4.tr T2 ?_⟩
        ·simp only[ACOk];refine⟨?_,z10⟩;unfold C.Rd at h1;obtain⟨ad,cap,e,_⟩:=h1;exact⟨ad,_,cap,e⟩
        ·have:∀(l:List C) (b':Nat),b<b'->∀y∈A9 b' l,y.fr no (· = b):=by
          intro l
          induction l with
          | nil=>intro b' _ y hy;simp[A9]at hy
          | cons c l ih=>
            intro b' hlt y hy;have gen:y∈(bif c.bor then AC.c c else AC.un)::A9 (b'+2) l->y.fr no (· = b):=by
             intro hy;rcases q0B.1 hy with rfl|hy
             ·cases c.bor<;>trivial
             ·exact ih (b'+2) z0D y hy
            cases c with
            | sl u d' l'=>
              cases u with
              | false=>exact gen (by simpa[A9]using hy)
              | true=>
                simp only[A9]at hy;rcases q0B.1 hy with rfl|hy
                ·simp only[AC.fr];omega
                ·exact ih (b'+2) z0D y hy
            | _=>exact gen (by simpa[A9]using hy)
         exact this cs (b+2) (by omega)
       ·intro x hx hf;have hx1:=g5 x hx (fun h=>hf z0Y);refine⟨hx1.m,hx1.f,hx1.lt,fun y hy=>hx1.bx y (by simpa[St.setOw,St.sub]using hy),fun k hk hb'=>?_⟩;simp only[G.key]at hb';split at hb'
        ·exact hf (by simp[hb'])
        ·rename_i hne;refine hx1.ow k ?_ hb';simp only[St.setOw,J3]at hk;rw[if_neg hne,if_neg hne]at hk;exact hk
       ·refine⟨fun x hx=>by show γ1.β x=_;exact g6.β x hx,fun k hk=>?_,fun x hx=>by show γ1.F x;exact g6.F x hx,fun _ _=>rfl,fun k d' l' hk hq h=>?_,fun _ _ _ _ _ _ _ _ _ _ _ _ _=>rfl⟩
        ·have hne:¬k=b:=fun e=>hk ⟨z0D,z04⟩
         simp only[G.key];rw[if_neg hne];exact g6.v k (fun h=>hk ⟨z0D,z04⟩)
        ·have hne:¬k=b:=fun e=>hk ⟨z0D,z04⟩
         simp only[St.setOw,J3]at h;rw[if_neg hne,if_neg hne]at h;exact g6.o k d' l' (fun h=>hk ⟨z0D,z04⟩) hq h
   | _=>exact plain (by simp only[A4]) (by simp only[A9])
def A4B:∀{l:List V} {b:Nat} {γ:G} {st:St} {vs:List Value} {fp:List Nat},b%2=0->Sim N B γ st a w->VsRd γ.F w l vs fp->fp.Nodup->Idl B γ st w fp->
  ∃γ',Sim N B γ' (Q6 st b l) a w/\γ'.F=γ.F/\γ'.β=γ.β/\TpOk γ' (Q6 st b l) w (A1f b l) vs/\(∀x,Idle B.M γ st w x->x∉fp->Idle B.M γ' (Q6 st b l) w x)
 | [],b,γ,st,vs,fp,hb,hS,h,hnd,hi=>by
   unfold VsRd at h;obtain⟨rfl,rfl⟩:=h;simp only[Q6,A1f];exact⟨γ,hS,rfl,rfl,by unfold TpOk;rfl,fun x hx _=>hx⟩
 | x::l,b,γ,st,vs,fp,hb,hS,h,hnd,hi=>by
   unfold VsRd at h;obtain⟨v,r,f1,f2,rfl,rfl,h1,h2⟩:=h;obtain⟨hn1,hn2,hn3⟩:=q0Q.1 hnd;obtain⟨γ1,g1,g2,g3,g4,g5⟩:=A4B (l:=l) (b:=b+2*x.2.length) z0D hS h2 hn2 (fun y hy=>hi y z0T);have hi1:Idl B γ1 (Q6 st (b+2*x.2.length) l) w f1:=fun y hy=>g5 y (hi y z0T) (fun h=>hn3 y hy y h rfl)
   obtain⟨ag,cs⟩:=x;simp only at g1 g2 g3 g4 g5 hi1;have key:∃us,C.RdVals γ1.F w cs us f1/\∀(γ':G) (st':St),ACsOk γ' st' w (A9 b cs) us->VOk γ' st' w ag (A9 b cs) v:=by
    unfold VRd at h1;cases ag with
    | true=>
      obtain⟨us,e,h1⟩:=h1;exact⟨us,by rw[g2];exact h1,fun γ' st' h=>⟨us,e,h⟩⟩
    | false=>
      obtain⟨c,e,h1⟩:=h1;simp only at e;subst e;refine⟨[v],by unfold C.RdVals;exact⟨v,[],f1,[],rfl,z0E,by rw[g2];exact h1,z0W⟩,fun γ' st' h=>?_⟩;have hl:=h.length
      match hc:A9 b [c],h,hl with
      | [y],h,_=>
        unfold ACsOk at h;obtain⟨v',r',e1,e2,_⟩:=h;simp only[V4]at e1;obtain⟨rfl,_⟩:=e1;exact⟨y,rfl,e2⟩
   obtain⟨us,k1,k2⟩:=key;obtain⟨γ2,q1,q2,q3,q4,q5,q6⟩:=A1E (b:=b) hb g1 k1 hn1 hi1;simp only[Q6,A1f];refine⟨γ2,q1,q2.trans g2,q3.trans g3, ?_,fun y hy hf=>q5 y (g5 y hy (fun h=>hf z0Y)) (fun h=>hf z0Y)⟩;unfold TpOk;refine⟨v,r,rfl,k2 _ _ q4,g4.tr q6 ?_⟩;have hC:∀(l:List C) (b':Nat),b+2*cs.length<=b'->∀y∈A9 b' l,y.fr no (fun k=>b<=k/\k<b+2*cs.length):=by
    intro l
    induction l with
    | nil=>intro b' _ y hy;simp[A9]at hy
    | cons c l ih=>
      intro b' hlt y hy;have gen:y∈(bif c.bor then AC.c c else AC.un)::A9 (b'+2) l->y.fr no (fun k=>b<=k/\k<b+2*cs.length):=by
       intro hy;rcases q0B.1 hy with rfl|hy
       ·cases c.bor<;>trivial
       ·exact ih (b'+2) z0D y hy
      cases c with
      | sl u d' l'=>
        cases u with
        | false=>exact gen (by simpa[A9]using hy)
        | true=>
          simp only[A9]at hy;rcases q0B.1 hy with rfl|hy
          ·simp only[AC.fr];omega
          ·exact ih (b'+2) z0D y hy
      | _=>exact gen (by simpa[A9]using hy)
   have hT:∀(l:List V) (b':Nat),b+2*cs.length<=b'->∀p∈A1f b' l,∀y∈p.2,y.fr no (fun k=>b<=k/\k<b+2*cs.length):=by
    intro l
    induction l with
    | nil=>intro b' _ p hp;simp[A1f]at hp
    | cons x l ih=>
      intro b' hlt p hp;simp only[A1f]at hp;rcases q0B.1 hp with rfl|hp
      ·exact hC x.2 b' hlt
      ·exact ih _ z0D p hp
   exact hT l _ (q0F _)
def put_none(v:Value):a.put none v=a:=rfl
def A0t{us:List Value}(h:ACsOk γ st w l us)(hv:match ag with|true=>v=.agg us.toArray|false=>us=[v]):VOk γ st w ag l v:=by
 unfold VOk;cases ag with
 | true=>exact⟨us,hv,h⟩
 | false=>
   simp only at hv;subst hv;have hl:=h.length
   match l,h,hl with
   | [y],h,_=>
     unfold ACsOk at h;obtain⟨v',r',e1,e2,_⟩:=h;simp only[V4]at e1;obtain⟨rfl,_⟩:=e1;exact⟨y,rfl,e2⟩
def A1o{x:V}(h:VRd F w x v fp):∃us,C.RdVals F w x.2 us fp/\(match x.1 with|true=>v=.agg us.toArray|false=>us=[v]):=by
 obtain⟨ag,l⟩:=x;unfold VRd at h;cases ag with
 | true=>obtain⟨vs,e,h⟩:=h;exact⟨vs,h,e⟩
 | false=>
   obtain⟨c,e,h⟩:=h;simp only at e;subst e;exact⟨[v],by unfold C.RdVals;exact⟨v,[],fp,[],rfl,z0E,h,z0W⟩,rfl⟩
def A4L{dst:Option Nat}(hS:Sim N B γ st a w)(hr:RRd γ.F w r v fp)(hnd:fp.Nodup)(hi:Idl B γ st w fp)(hd:dst.any (fun d=>N<=d)=false):∃γ',Sim N B γ' (Q8 st dst r) (a.put dst v) w:=by
 cases dst with
 | none=>exact⟨γ,by unfold Q8;exact hS⟩
 | some d=>
   have hdN:d<N:=by simpa using hd
   have gen:∀x:V,VRd γ.F w x v fp->∃γ',Sim N B γ' ((A4 st (128*d) x.2).put d (.v x.1 (A9 (128*d) x.2))) (a.put (some d) v) w:=by
    intro x hx;obtain⟨us,h1,h2⟩:=A1o hx;obtain⟨γ1,g1,g2,g3,g4,g5,g6⟩:=A1E (b:=128*d) z0D hS h1 hnd hi;exact⟨γ1,g1.put hdN (by simp only[AVOk];exact A0t g4 h2)⟩
   cases r with
   | tup l=>
     unfold RRd at hr;obtain⟨vs,e,hr⟩:=hr;obtain⟨γ1,g1,g2,g3,g4,g5⟩:=A4B (b:=128*d) z0D hS hr hnd hi;simp only[Q8];exact⟨γ1,g1.put hdN (by simp only[AVOk];exact⟨vs,e,g4⟩)⟩
   | one x=>
     obtain⟨ag,l⟩:=x;have hdef:(∀l',(ag,l)≠(false,[.mp l']))->Q8 st (some d) (.one (ag,l))=(A4 st (128*d) l).put d (.v ag (A9 (128*d) l)):=by
      intro hne;unfold Q8;split
      ·rename_i h;cases h
      ·rename_i h1 h2;simp only[R.one.injEq]at h2;exact absurd h2 (hne _)
      ·rename_i h1 h2 h3;simp only[W0,R.one.injEq]at h2 h3;subst h2;subst h3;rfl
      ·rename_i h;cases h
     by_cases hmp:∃l',(ag,l)=(false,[C.mp l'])
     ·obtain⟨l',e⟩:=hmp;simp only[W4]at e;obtain⟨rfl,rfl⟩:=e;simp only[Q8];unfold RRd VRd at hr;obtain⟨c,e,hr⟩:=hr;simp only[K8]at e;subst e;unfold C.Rd at hr;obtain⟨b,c,e,fp',rfl,rfl,h3,h4⟩:=hr;obtain⟨hn1,hn2⟩:=q1Q.1 hnd;obtain⟨γ1,g1,g2,g3,g4,g5,g6⟩:=A1E (b:=128*d) z0D hS h4 hn2 (fun y hy=>hi y z0T);have hb:=g5 b (hi b z0E) hn1;have h5:=g1.newBox (x:=2*d) z0D g4 h3 hb;exact⟨_,h5.put hdN (by simp[AVOk,G.box])⟩
     ·rw[hdef (fun l' e=>hmp ⟨l',e⟩)];exact gen (ag,l) hr
end
end Go.Aw
