/- What a function returns may be given up: it reads as borrowed. No condition. -/
import Derived.Test.YtkophkhamikaoaaGreatlBx8kb
namespace Go.Aw
set_option linter.all false
def R.free:R->R
 | .one x=>.one (x.1,C.freeL x.2)
 | .tup l=>.tup (l.map fun v=>(v.1,C.freeL v.2))
def c9e{F F':Nat->Prop}{w:World}(hF:∀b,F b->F' b){x:V}{v:Value}{fp:List Nat}(hf:∀b∈fp,F' b)(h:VRd F w x v fp):VRd F' w (x.1,C.freeL x.2) v []:=by
 obtain⟨ag,l⟩:=x;unfold VRd at*;cases ag with
 | true=>obtain⟨vs,e,h⟩:=h;exact⟨vs,e,C.RdVals.free hF _ _ _ hf h⟩
 | false=>obtain⟨c,e,h⟩:=h;exact⟨c.free,by simp only at e;rw[e];simp only[C.freeL],C.Rd.free hF _ _ _ hf h⟩
def c5r{F F':Nat->Prop}{w:World}(hF:∀b,F b->F' b):∀{l:List V} {vs:List Value} {fp:List Nat},(∀b∈fp,F' b)->VsRd F w l vs fp->VsRd F' w (l.map fun v=>(v.1,C.freeL v.2)) vs []
 | [],vs,fp,hf,h=>⟨h.1,rfl⟩
 | x::l,vs,fp,hf,h=>by
   unfold VsRd at h;obtain⟨v,r,f1,f2,e1,e2,h1,h2⟩:=h;subst e2;rw[q0D];unfold VsRd;exact⟨v,r,[],[],e1,rfl,c9e hF (fun b hb=>hf b z08) h1,c5r hF (fun b hb=>hf b z08) h2⟩
def e0E{F F':Nat->Prop}{w:World}(hF:∀b,F b->F' b){r:R}{v:Value}{fp:List Nat}(hf:∀b∈fp,F' b)(h:RRd F w r v fp):RRd F' w r.free v []:=by
 cases r with
 | one x=>exact c9e hF hf h
 | tup l=>obtain⟨vs,e,h⟩:=h;exact⟨vs,e,c5r hF hf h⟩
def b9v{F F':Nat->Prop}{w:World}(hF:∀b,F b->F' b){vs:List Value}:∀{l:List (Nat×V)} {fp:List Nat},OutRd F w vs l fp->OutRd F' w vs l fp
 | [],fp,h=>h
 | (i,x)::l,fp,h=>by
   unfold OutRd at*;obtain⟨f1,f2,e,h1,h2⟩:=h;exact⟨f1,f2,e,VRd.mono hF (fun _ _=>rfl) (fun _ _=>rfl) h1,b9v hF h2⟩
def a4y{P:Program}{f:FuncId}{args:List V}{outs:List (Nat×V)}{r r':R}(h:A0e P f args outs r)(e:r.free=r'):A0e P f args outs r':=by
 subst e;refine⟨h.1,fun F w vs fpa ha hn hp hw=>Calls.mono (h.2 F w vs fpa ha hn hp hw) ?_⟩;rintro x w' ⟨F',v,fp,fo,ex,hr,ho,hP⟩;refine⟨fun b=>F' b\/b∈fp,v,[],fo,ex,e0E (fun _ h=>.inl h) (fun b hb=>.inr hb) hr,b9v (fun _ h=>.inl h) ho, ?_⟩;have hd:=q0Q.1 hP.nd;exact{ hP with
  mono:=fun b hb=>.inl (hP.mono b hb)
  new:=fun b hb=>hb.elim (hP.new b) (fun hb=>.inr (hP.fp b (List.mem_append_left _ hb)).2.1)
  lt:=fun b hb=>hb.elim (hP.lt b) (fun hb=>(hP.fp b (List.mem_append_left _ hb)).2.2)
  nd:=hd.2.1
  fp:=fun b hb=>⟨fun h=>h.elim (hP.fp b (List.mem_append_right _ hb)).1 (fun h=>hd.2.2 b h b hb rfl),(hP.fp b (List.mem_append_right _ hb)).2⟩ }
end Go.Aw
