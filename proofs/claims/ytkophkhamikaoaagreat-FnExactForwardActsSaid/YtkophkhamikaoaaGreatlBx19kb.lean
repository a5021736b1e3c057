/- A box that is not written any more may be given up: what points to it points to what is only read. No condition. -/
import Derived.Test.YtkophkhamikaoaaGreatlBx8kb
namespace Go.Aw
set_option linter.all false
def b8e:List AC->Option (List C)
 | []=>some []
 | .c c::l=>match b8e l with|some r=>some (c::r)|none=>none
 | .nl d::l=>match b8e l with|some r=>some (.sl false d []::r)|none=>none
 | _=>none
def d4a{γ:G}{st:St}{w:World}:∀{l:List AC} {cs:List C} {vs:List Value},b8e l=some cs->ACsOk γ st w l vs->C.RdVals γ.F w cs vs []
 | [],cs,vs,h,hv=>by
   simp only[b8e,W0]at h;subst h;unfold ACsOk at hv;unfold C.RdVals;exact⟨hv,rfl⟩
 | .c c::l,cs,vs,h,hv=>by
   unfold ACsOk at hv;obtain⟨v,r,rfl,h1,h2⟩:=hv;simp only[b8e]at h;split at h
   ·rename_i r' hr;cases h;unfold C.RdVals;exact⟨v,r,[],[],rfl,rfl,h1,d4a hr h2⟩
   ·cases h
 | .nl d::l,cs,vs,h,hv=>by
   unfold ACsOk at hv;obtain⟨v,r,rfl,h1,h2⟩:=hv;simp only[b8e]at h;split at h
   ·rename_i r' hr;cases h;unfold C.RdVals;refine⟨v,r,[],[],rfl,rfl, ?_,d4a hr h2⟩;simp only[ACOk]at h1;unfold C.Rd;exact⟨none,0,by simpa using h1,q2D _,q2D _,z0E,rfl,.inl rfl⟩
   ·cases h
 | .ow k::l,cs,vs,h,hv=>by simp[b8e]at h
 | .cl g xs::l,cs,vs,h,hv=>by simp[b8e]at h
 | .un::l,cs,vs,h,hv=>by simp[b8e]at h
 | .cx d r::l,cs,vs,h,hv=>by simp[b8e]at h
def St.frB(st:St)(d:Nat):St:=match st.sl d with
 | .bp x 0=>match st.bx x with
   | some l=>match b8e l with
     | some cs=>(st.susB x).put d (.fp cs)
     | none=>st
   | none=>st
 | _=>st
def Sim.frB{γ:G}{st:St}{a:Act}{w:World}{B:Base}{N:Nat}(hS:Sim N B γ st a w)(d:Nat):∃γ',Sim N B γ' (st.frB d) a w:=by
 unfold St.frB;split
 ·rename_i x hd;split
  ·rename_i l hx;split
   ·rename_i cs hcs;have hxs:(st.bx x).isSome=true:=by rw[hx];rfl
    obtain⟨c,e,hh,hl⟩:=hS.bx x l hx;have hlt:γ.β x<w.heap.size:=by
     rcases q3I (γ.β x) w.heap.size with h|h
     ·exact h
     ·rw[q2N h]at hh;cases hh
    have h1:=((hS.susB x).world (F':=fun b=>γ.F b\/b=γ.β x) (w':=w) ⟨fun _ _ _=>rfl,q0F _,rfl,Tp.of rfl rfl,rfl⟩ (fun _ h=>.inl h) (fun b hb=>hb.imp id (fun(h:b=γ.β x)=>.inl (by rw[h];exact hS.idle_susB hxs))) (fun b hb=>hb.elim (hS.Fw b) (fun h=>h▸hlt))).1;have T2:Tr no no no no { γ with F:=fun b=>γ.F b\/b=γ.β x } (st.susB x) w { γ with F:=fun b=>γ.F b\/b=γ.β x } ((st.susB x).put d (.fp cs)) w:=Tr.slots rfl;refine⟨_,h1.weak (fun _=>.inr rfl) (fun y cs h=>⟨cs,h,fun vs h=>h.tr T2 (fun _ _=>AC.fr_no)⟩) (fun i v h=>?_)⟩;simp only[put_sl'];split
    ·rename_i e2;subst e2;have e1:(st.susB x).sl i=.bp x 0:=hd;rw[e1]at h;simp only[AVOk]at h ⊢;refine⟨_,_,c.toList,h,.inr rfl,fun j hj=>?_,C.RdVals.mono (fun _ h=>.inl h) (fun _ _=>rfl) _ _ _ (fun _ h=>by cases h) (d4a hcs hl)⟩;simp only[q1Z]at hj;simp[World.cell?,hh,hj]
    ·exact h.tr T2 AV.fr_no
   ·exact⟨γ,hS⟩
  ·exact⟨γ,hS⟩
 ·exact⟨γ,hS⟩
attribute [go_sem] St.frB b8e
def d2Q{P:Program}{Γ:Ctx}{N:Nat}{e:E P Γ N}{Q:Exit->St->Prop}{st:St}{x:ACode}(d:Nat)(h:AW e x Q (st.frB d)):AW e x Q st:=by
 intro c hc γ a w hS;obtain⟨γ',hS'⟩:=hS.frB d;exact h c hc γ' a w hS'
end Go.Aw
