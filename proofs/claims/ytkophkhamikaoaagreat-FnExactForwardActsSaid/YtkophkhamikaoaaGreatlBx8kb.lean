/- An owned slice may be given up at any place. No condition. -/
import Derived.Test.YtkophkhamikaoaaGreatlBwckb
namespace Go.Aw
set_option linter.all false
variable{Γ:Ctx}{N:Nat}{st:St}
def a2B{P:Program}{e:E P Γ N}{Q:Exit->St->Prop}{x:ACode}(k:Nat)(h:AW e x Q (st.frK k)):AW e x Q st:=by
 intro c hc γ a w hS;obtain⟨γ',hS',_⟩:=hS.frK k;exact h c hc γ' a w hS'
def c6Z{P:Program}{e:E P Γ N}{Q:Exit->St->Prop}{x:ACode}(dp:Bool)(cm:List (Bool×Nat×Nat×Nat))(h:AW e x Q (st.keys dp cm)):AW e x Q st:=by
 intro c hc γ a w hS;obtain⟨γ',hS'⟩:=hS.keys dp (l:=cm);exact h c hc γ' a w hS'
def St.moveB(st:St)(d x':Nat):St:=match st.sl d with
 | .bp x 0=>match st.bx x with
   | some l=>if x'%2=0/\x≠x' then((st.susB x).newBx x' l).put d (.bp x' 0)else st
   | none=>st
 | _=>st
def Sim.moveB{P:Program}{γ:G}{a:Act}{w:World}{B:Base}(hS:Sim N B γ st a w)(d x':Nat):∃γ',Sim N B γ' (st.moveB d x') a w:=by
 unfold St.moveB;split
 ·rename_i x hd;split
  ·rename_i l hx;split
   ·rename_i he;obtain⟨he,hne⟩:=he;have hx1:(st.bx x).isSome=true:=by rw[hx];rfl
    obtain⟨c,e,hh,hl⟩:=hS.bx x l hx;obtain⟨hm,hf⟩:=hS.bxM x hx1;have hlt:γ.β x<w.heap.size:=by
     rcases q3I (γ.β x) w.heap.size with h|h
     ·exact h
     ·rw[q2N h]at hh;cases hh
    have T:Tr no no no no γ st w γ (st.susB x) w:=Tr.fewer (fun k=>.inr rfl);have h1:=(hS.susB x).newBox (x:=x') (b:=γ.β x) (l:=l) he (hl.tr T (fun _ _=>AC.fr_no)) hh ⟨hm,hf,hlt,fun y hy hb=>by
     simp only[St.susB]at hy;split at hy
     ·cases hy
     ·rename_i hny;exact hny (hS.bxI y x hy hx1 hb),fun k hk hb=>(hS.owM k hk _ hb).2.2.2 x hx1 rfl⟩
    have T2:Tr no no no no (γ.box x' (γ.β x)) ((st.susB x).newBx x' l) w (γ.box x' (γ.β x)) (((st.susB x).newBx x' l).put d (AV.bp x' 0)) w:=Tr.slots rfl;refine⟨_,h1.weak (fun _=>.inr rfl) (fun y cs h=>⟨cs,h,fun vs h=>h.tr T2 (fun _ _=>AC.fr_no)⟩) (fun i v h=>?_)⟩;simp only[put_sl'];split
    ·rename_i e;subst e;have e1:((st.susB x).newBx x' l).sl i=.bp x 0:=by simp[St.newBx,St.susB,hd,AV.dropB,hne]
     rw[e1]at h;simp only[AVOk,G.box,if_neg hne,if_true]at h ⊢;exact h
    ·exact h.tr T2 AV.fr_no
   ·exact⟨γ,hS⟩
  ·exact⟨γ,hS⟩
 ·exact⟨γ,hS⟩
attribute [go_sem] St.moveB Nat.ble_eq
def n7{st:St}{k k':Nat}(h:k'<k):(st.sub k AC.un).sub k' AC.un=(st.sub k' AC.un).sub (k+0) AC.un:=nf_sub_sub h (by simp[AC.sub]) (by simp[AC.sub])
def m9{st:St}{x k:Nat}{d:List C}:(st.sub k AC.un).newBx x [.nl d]=(st.newBx x [.nl d]).sub k AC.un:=A7m (by simp[AC.dropB]) (by simp[E9,A7,AC.sub,AC.dropB])
def m7{st:St}{x k:Nat}{c:C}{d:List C}:(st.sub k (.c c)).newBx x [.nl d]=(st.newBx x [.nl d]).sub k (.c c):=A7m rfl rfl
def m8{st:St}{x k:Nat}{c a:C}{d:List C}:(st.sub k (.c c)).newBx x [.c a,.nl d]=(st.newBx x [.c a,.nl d]).sub k (.c c):=A7m rfl rfl
def n0{st:St}{x k:Nat}{a:C}{d:List C}:(st.sub k AC.un).newBx x [.c a,.nl d]=(st.newBx x [.c a,.nl d]).sub k AC.un:=A7m rfl rfl
def K0:=And.intro @A7i (And.intro @A7m (And.intro @A6A (And.intro @A6z (And.intro @A7h (And.intro @A6y (And.intro @nf_put_sub (And.intro @A7k (And.intro @A7j (And.intro @nf_put_susK (And.intro @nf_put_dip (And.intro @nf_put_put (And.intro @A7l (And.intro @A7g (And.intro @A6B (And.intro @n7 (And.intro @m9 (And.intro @m7 (And.intro @m8 (And.intro @n0 @nf_sub_sub)))))))))))))))))))
def a0o{X:List Nat}{s:List (Bool×Nat×AOper)}{more:List (List (Bool×Nat×AOper))}{Q:Prop}(h:RM Γ X st s more)(k:Q):RM Γ X st s more/\Q:=⟨h,k⟩
def e2z{o:Option (Prop×St)}{K:St->Prop}(h:J2 o K):∃S,J2 o (fun x=>S=x)/\K S:=by
 cases o with
 | none=>exact h.elim
 | some q=>exact⟨q.2,⟨h.1,rfl⟩,h.2⟩
def b1T{Γ:Ctx}{X:List Nat}{B0:Nat->Option (List AC)}:∀{l:List (Bool×Nat×AOper)} {K:St->Prop} {st:St},O4 Γ X B0 l K st->∃S,O4 Γ X B0 l (fun x=>S=x) st/\K S
 | [],K,st,h=>⟨st,rfl,h⟩
 | (b,i,o)::l,K,st,h=>by
   cases b<;>
   ·unfold O4 at h ⊢;obtain⟨S1,h1,h2⟩:=e2z h;obtain⟨S,h3,h4⟩:=b1T h2;exact⟨S,U0 (fun s hs=>by subst hs;exact h3) h1,h4⟩
def a3K{Γ:Ctx}{X:List Nat}{B0:Nat->Option (List AC)}{r:List (Bool×Nat×AOper)}{K:St->Prop}:∀{l:List (Bool×Nat×AOper)} {st:St},O4 Γ X B0 (l++r) K st↔O4 Γ X B0 l (O4 Γ X B0 r K) st
 | [],st=>Iff.rfl
 | (b,i,o)::l,st=>by
   cases b<;>
   ·rw[q1K];unfold O4;exact⟨U0 fun s hs=>a3K.1 hs,U0 fun s hs=>a3K.2 hs⟩
def c5S(X:List Nat)(B:Nat->Option (List AC)):Q5 X B B:=by
 induction X with
 | nil=>trivial
 | cons x X ih=>exact⟨rfl,ih⟩
def a0V{X:List Nat}{s:List (Bool×Nat×AOper)}{more:List (List (Bool×Nat×AOper))}(n:Nat)(e:more=(more.map (List.drop n)).map (s.take n++·))(h:∀S:St,O4 Γ X st.bx (s.take n) (fun x=>S=x) st->∀B0,Q5 X st.bx B0->∀K:St->Prop,O4 Γ X B0 (s.drop n) K S->A3H Γ X B0 (more.map (List.drop n)) K S):RM Γ X st s more:=by
 intro K hk;rw[<-q1X n s]at hk;obtain⟨S,h1,h2⟩:=b1T (a3K.1 hk);have h3:=h S h1 st.bx (c5S X st.bx) K h2;rw[e];clear e h hk h2
 revert h3
 generalize more.map (List.drop n)=m
 induction m with
 | nil=>intro _;trivial
 | cons a m ih=>
   intro h3;refine⟨a3K.2 (A0a (fun x hx=>?_) h1),ih h3.2⟩;subst hx;exact h3.1
section
variable{X:List Nat}{s:List (Bool×Nat×AOper)}
def Sw(Γ:Ctx)(X:List Nat)(st:St)(a b:List (Bool×Nat×AOper)):Prop:=∀K:St->Prop,O4 Γ X st.bx a K st->O4 Γ X st.bx b K st
def RS(Γ:Ctx)(X:List Nat)(st:St)(s:List (Bool×Nat×AOper))(acc more:List (List (Bool×Nat×AOper))):Prop:=(∀a∈acc,Sw Γ X st s a)->∀m∈more,Sw Γ X st s m
def b4p{acc:List (List (Bool×Nat×AOper))}:RS Γ X st s acc []:=fun _ m hm=>by cases hm
def l6{acc more:List (List (Bool×Nat×AOper))}{m:List (Bool×Nat×AOper)}(i p:Nat)(hi:i<acc.length)(e:m=(acc.getD i []).take p++(((acc.getD i []).drop (p+1)).take 1++(((acc.getD i []).drop p).take 1++(acc.getD i []).drop (p+2))))
  (h:∀S:St,O4 Γ X st.bx ((acc.getD i []).take p) (fun x=>S=x) st->∀B0,Q5 X st.bx B0->∀K:St->Prop,O4 Γ X B0 (((acc.getD i []).drop p).take 2) K S->O4 Γ X B0 (((acc.getD i []).drop (p+1)).take 1++((acc.getD i []).drop p).take 1) K S)
  (r:RS Γ X st s (m::acc) more):RS Γ X st s acc (m::more):=by
 intro ha;have ha0:Sw Γ X st s (acc.getD i []):=ha _ (by rw[W5,V7 hi];exact q1M hi);generalize acc.getD i []=a at ha0 e h;have hm:Sw Γ X st s m:=by
  intro K hk;have h1:=ha0 K hk;rw[<-q1X p a]at h1;obtain⟨S,h2,h3⟩:=b1T (a3K.1 h1);have e2:a.drop p=(a.drop p).take 2++a.drop (p+2):=by
   have:=(q1X 2 (a.drop p)).symm
   rwa [q2S]at this
  rw[e2]at h3;have h4:=h S h2 st.bx (c5S X st.bx) _ (a3K.1 h3);rw[e];refine a3K.2 (A0a (fun x hx=>?_) h2);subst hx;rw[<-q0X];exact a3K.2 h4
 refine fun x hx=>?_
 rcases q0B.1 hx with rfl|hx
 ·exact hm
 ·exact r (fun y hy=>by rcases q0B.1 hy with rfl|hy;exact hm;exact ha y hy) x hx
def c5p{more:List (List (Bool×Nat×AOper))}(h:RS Γ X st s [s] more):RM Γ X st s more:=by
 intro K hk;have h1:=h (fun a ha=>by rw[q0E.1 ha];exact fun _ h=>h);clear h
 induction more with
 | nil=>trivial
 | cons m more ih=>exact⟨h1 m q2L K hk,ih fun x hx=>h1 x (q1W _ hx)⟩
end
end Go.Aw
