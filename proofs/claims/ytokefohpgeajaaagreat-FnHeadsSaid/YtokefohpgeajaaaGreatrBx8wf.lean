/- An owned slice may be given up at any place. No condition. -/
import Derived.Test.YtokefohpgeajaaaGreatrBwcwf
namespace Go.Aw
set_option linter.all false
def a1v{P:Program}{Γ:Ctx}{N:Nat}{e:E P Γ N}{Q:Exit->St->Prop}{st:St}{x:ACode}(k:Nat)(h:AW e x Q (st.frK k)):AW e x Q st:=by
 intro c hc γ a w hS;obtain⟨γ',hS',_⟩:=hS.frK k;exact h c hc γ' a w hS'
def AV.dpp_dpp(k:Nat):∀(x:AV),(x.dpp k).dpp k=x.dpp k
 | .ip ag k' r o n=>by by_cases h:k'=k<;>simp[AV.dpp,h]
 | .op k' r o=>by by_cases h:k'=k<;>simp[AV.dpp,h]
 | .gd g a=>by simp only[AV.dpp];rw[AV.dpp_dpp k a]
 | .u=>rfl
 | .v _ _=>rfl
 | .tp _=>rfl
 | .bp _ _=>rfl
 | .fp _=>rfl
def St.frN(st:St)(k:Nat):St:=match st.ow k with|some (d,l)=>(st.susK k).setOw k d (C.freeRs l)|none=>st
def Sim.frN{P:Program}{Γ:Ctx}{γ:G}{st:St}{a:Act}{w:World}{B:Base}{N:Nat}(hS:Sim N B γ st a w)(k:Nat):∃γ',Sim N B γ' (st.frN k) a w:=by
 cases hk:st.ow k with
 | none=>exact⟨γ,by simp only[St.frN,hk];exact hS⟩
 | some q=>
   obtain⟨d,l⟩:=q;simp only[St.frN,hk];have hks:(st.ow k).isSome=true:=by rw[hk];rfl
   obtain⟨hrd,hnd⟩:=hS.ow k d l hk;have he:({ st.susK k with sl:=fun j=>((st.susK k).sl j).dpp k }.setOw k d (C.freeRs l))=(st.susK k).setOw k d (C.freeRs l):=by
    have:(fun j=>((st.susK k).sl j).dpp k)=(st.susK k).sl:=funext fun j=>AV.dpp_dpp k (st.sl j)
    rw[this]
   have hno:(st.susK k).ow k=none:=by simp[St.susK]
   unfold C.Rd at hrd;obtain⟨ad,cap,e1,e2,e3,e4,e5⟩:=hrd;simp only[W4]at e5;rcases e5 with⟨h0,hf⟩|⟨b,off,V,fp',rfl,hf,hob,hat,hrows⟩
   ·have hl:l=[]:=q0L.1 (by omega);subst hl;have h1:=(hS.susK k).resK (k:=k) (d:=d) (l:=[]) (fp:=[]) hno (by rw[e1];unfold C.Rd;exact⟨ad,cap,rfl,e2,e3,by simp,by simp only[W4];exact .inl ⟨h0,trivial⟩⟩) q0V (fun b hb=>by cases hb);exact⟨_,by rw[<-he];exact h1⟩
   ·rw[hf]at hnd;have hin:∀x∈fp',x∈γ.f k:=fun x hx=>by rw[hf];simp[hx]
    have hbin:b∈γ.f k:=by rw[hf];simp
    have h1:=(hS.susK k).world (F':=fun x=>γ.F x\/x∈fp') (w':=w) ⟨fun _ _ _=>rfl,q0A _,rfl,Tp.of rfl rfl,rfl⟩ (fun _ h=>.inl h) (fun x hx=>hx.imp id (fun h=>.inl (hS.idle_susK hks (hin x h)))) (fun x hx=>by
     rcases hx with h|h
     ·exact hS.Fw x h
     ·exact(hS.owM k hks x (hin x h)).2.2.1)
    have hi:=hS.idle_susK hks hbin;have h2:=h1.1.resK (k:=k) (d:=d) (l:=C.freeRs l) (fp:=[b]) hno (by
     rw[show({ γ with F:=fun x=>γ.F x\/x∈fp' }:G).v k=γ.v k from rfl,e1];unfold C.Rd;refine⟨_,cap,by rw[C.freeRs_length],by rw[C.freeRs_length];exact e2,e3,C.freeRs_rows e4, ?_⟩;simp only[W4];exact .inr ⟨b,off,V,[],rfl,rfl,hob,hat,C.RdRows.free (fun _ h=>.inl h) _ _ _ (fun x hx=>.inr hx) hrows⟩) (by simp) (fun x hx=>by
     rw[q0D.1 hx];exact⟨hi.m,fun h=>by
      rcases h with h|h
      ·exact hi.f h
      ·exact(q1B.1 hnd).1 h,hi.lt,hi.bx,hi.ow⟩)
    exact⟨_,by rw[<-he];exact h2⟩
def aw_frN{P:Program}{Γ:Ctx}{N:Nat}{e:E P Γ N}{Q:Exit->St->Prop}{st:St}{x:ACode}(k:Nat)(h:AW e x Q (st.frN k)):AW e x Q st:=by
 intro c hc γ a w hS;obtain⟨γ',hS'⟩:=hS.frN (P:=P) (Γ:=Γ) k;exact h c hc γ' a w hS'
def aw_keys{P:Program}{Γ:Ctx}{N:Nat}{e:E P Γ N}{Q:Exit->St->Prop}{st:St}{x:ACode}(dp:Bool)(cm:List (Bool×Nat×Nat×Nat))(h:AW e x Q (st.keys dp cm)):AW e x Q st:=by
 intro c hc γ a w hS;obtain⟨γ',hS'⟩:=hS.keys dp (l:=cm);exact h c hc γ' a w hS'
def St.moveB(st:St)(d x':Nat):St:=match st.sl d with
 | .bp x 0=>match st.bx x with
   | some l=>if x'%2=0/\x≠x' then((st.susB x).newBx x' l).put d (.bp x' 0)else st
   | none=>st
 | _=>st
def Sim.moveB{P:Program}{γ:G}{st:St}{a:Act}{w:World}{B:Base}{N:Nat}(hS:Sim N B γ st a w)(d x':Nat):∃γ',Sim N B γ' (st.moveB d x') a w:=by
 unfold St.moveB;split
 ·rename_i x hd;split
  ·rename_i l hx;split
   ·rename_i he;obtain⟨he,hne⟩:=he;have hx1:(st.bx x).isSome=true:=by rw[hx];rfl
    obtain⟨c,e,hh,hl⟩:=hS.bx x l hx;obtain⟨hm,hf⟩:=hS.bxM x hx1;have hlt:γ.β x<w.heap.size:=by
     rcases q2X (γ.β x) w.heap.size with h|h
     ·exact h
     ·rw[q2D h]at hh;cases hh
    have T:Tr no no no no γ st w γ (st.susB x) w:=Tr.fewer (fun k=>.inr rfl);have h1:=(hS.susB x).newBox (x:=x') (b:=γ.β x) (l:=l) he (hl.tr T (fun _ _=>AC.fr_no)) hh ⟨hm,hf,hlt,fun y hy hb=>by
     simp only[St.susB]at hy;split at hy
     ·cases hy
     ·rename_i hny;exact hny (hS.bxI y x hy hx1 hb),fun k hk hb=>(hS.owM k hk _ hb).2.2.2 x hx1 rfl⟩
    have T2:Tr no no no no (γ.box x' (γ.β x)) ((st.susB x).newBx x' l) w (γ.box x' (γ.β x)) (((st.susB x).newBx x' l).put d (AV.bp x' 0)) w:=Tr.slots rfl;refine⟨_,h1.weak (fun _=>.inr rfl) (fun y cs h=>⟨cs,h,fun vs h=>h.tr T2 (fun _ _=>AC.fr_no)⟩) (fun i v h=>?_)⟩;simp only[put_sl'];split
    ·rename_i e;subst e;have e1:((st.susB x).newBx x' l).sl i=.bp x 0:=by simp[St.newBx,St.susB,hd,AV.dropB,hne]
     rw[e1]at h;simp only[AVOk,G.box,if_neg hne,if_true]at h ⊢;exact h
    ·exact h.tr T2 AV.fr_no
   ·exact⟨γ,hS⟩
  ·exact⟨γ,hS⟩
 ·exact⟨γ,hS⟩
attribute [go_sem] St.moveB Nat.ble_eq
def c9c{P:Program}{Γ:Ctx}{N:Nat}{e:E P Γ N}{Q:Exit->St->Prop}{st:St}{x:ACode}(d x':Nat)(h:AW e x Q (st.moveB d x')):AW e x Q st:=by
 intro c hc γ a w hS;obtain⟨γ',hS'⟩:=hS.moveB (P:=P) d x';exact h c hc γ' a w hS'
def j8{st:St}{k k':Nat}(h:k'<k):(st.sub k AC.un).sub k' AC.un=(st.sub k' AC.un).sub (k+0) AC.un:=nf_sub_sub h (by simp[AC.sub]) (by simp[AC.sub])
def j6{st:St}{x k:Nat}{d:List C}:(st.sub k AC.un).newBx x [.nl d]=(st.newBx x [.nl d]).sub k AC.un:=A7y (by simp[AC.dropB]) (by simp[F2,A9,AC.sub,AC.dropB])
def j4{st:St}{x k:Nat}{c:C}{d:List C}:(st.sub k (.c c)).newBx x [.nl d]=(st.newBx x [.nl d]).sub k (.c c):=A7y rfl rfl
def j5{st:St}{x k:Nat}{c a:C}{d:List C}:(st.sub k (.c c)).newBx x [.c a,.nl d]=(st.newBx x [.c a,.nl d]).sub k (.c c):=A7y rfl rfl
def j7{st:St}{x k:Nat}{a:C}{d:List C}:(st.sub k AC.un).newBx x [.c a,.nl d]=(st.newBx x [.c a,.nl d]).sub k AC.un:=A7y rfl rfl
def z6{Γ:Ctx}{X:List Nat}{st:St}{s:List (Bool×Nat×AOper)}{more:List (List (Bool×Nat×AOper))}{Q:Prop}(h:RM Γ X st s more)(k:Q):RM Γ X st s more/\Q:=⟨h,k⟩
def d0J{o:Option (Prop×St)}{K:St->Prop}(h:I7 o K):∃S,I7 o (fun x=>S=x)/\K S:=by
 cases o with
 | none=>exact h.elim
 | some q=>exact⟨q.2,⟨h.1,rfl⟩,h.2⟩
def b5G{Γ:Ctx}{X:List Nat}{B0:Nat->Option (List AC)}:∀{l:List (Bool×Nat×AOper)} {K:St->Prop} {st:St},O5 Γ X B0 l K st->∃S,O5 Γ X B0 l (fun x=>S=x) st/\K S
 | [],K,st,h=>⟨st,rfl,h⟩
 | (b,i,o)::l,K,st,h=>by
   cases b<;>
   ·unfold O5 at h ⊢;obtain⟨S1,h1,h2⟩:=d0J h;obtain⟨S,h3,h4⟩:=b5G h2;exact⟨S,U6 (fun s hs=>by subst hs;exact h3) h1,h4⟩
def a9F{Γ:Ctx}{X:List Nat}{B0:Nat->Option (List AC)}{r:List (Bool×Nat×AOper)}{K:St->Prop}:∀{l:List (Bool×Nat×AOper)} {st:St},O5 Γ X B0 (l++r) K st↔O5 Γ X B0 l (O5 Γ X B0 r K) st
 | [],st=>Iff.rfl
 | (b,i,o)::l,st=>by
   cases b<;>
   ·rw[q2M];unfold O5;exact⟨U6 fun s hs=>a9F.1 hs,U6 fun s hs=>a9F.2 hs⟩
def c7I(X:List Nat)(B:Nat->Option (List AC)):F7 X B B:=by
 induction X with
 | nil=>trivial
 | cons x X ih=>exact⟨rfl,ih⟩
def u1{Γ:Ctx}{X:List Nat}{st:St}{s:List (Bool×Nat×AOper)}{more:List (List (Bool×Nat×AOper))}(n:Nat)(e:more=(more.map (List.drop n)).map (s.take n++·))(h:∀S:St,O5 Γ X st.bx (s.take n) (fun x=>S=x) st->∀B0,F7 X st.bx B0->∀K:St->Prop,O5 Γ X B0 (s.drop n) K S->A3U Γ X B0 (more.map (List.drop n)) K S):RM Γ X st s more:=by
 intro K hk;rw[<-q1P n s]at hk;obtain⟨S,h1,h2⟩:=b5G (a9F.1 hk);have h3:=h S h1 st.bx (c7I X st.bx) K h2;rw[e];clear e h hk h2
 revert h3
 generalize more.map (List.drop n)=m
 induction m with
 | nil=>intro _;trivial
 | cons a m ih=>
   intro h3;refine⟨a9F.2 (A0l (fun x hx=>?_) h1),ih h3.2⟩;subst hx;exact h3.1
section
variable{Γ:Ctx}{X:List Nat}{st:St}{s:List (Bool×Nat×AOper)}
end
end Go.Aw
