/- An owned slice may be given up at any place. No condition. -/
import Derived.Test.YtdfnhhecaaaoaaaGreatnBwc
namespace Go.Aw
theorem aw_frK {P:Program} {Γ:Ctx} {N:Nat} {e:E P Γ N} {Q:Exit→St→Prop} {st:St} {x:ACode} (k:Nat) (h:AW e x Q (st.frK k)):AW e x Q st:=by
 intro c hc γ a w hS
 obtain ⟨γ',hS',_⟩:=hS.frK k
 exact h c hc γ' a w hS'
theorem aw_keys {P:Program} {Γ:Ctx} {N:Nat} {e:E P Γ N} {Q:Exit→St→Prop} {st:St} {x:ACode} (dp:Bool) (cm:List (Bool×Nat×Nat×Nat)) (h:AW e x Q (st.keys dp cm)):AW e x Q st:=by
 intro c hc γ a w hS
 obtain ⟨γ',hS'⟩:=hS.keys dp (l:=cm)
 exact h c hc γ' a w hS'
theorem a5s {st:St} {k k':Nat} (h:k' < k):(st.sub k AC.un).sub k' AC.un=(st.sub k' AC.un).sub k AC.un:=nf_sub_sub h (by simp [AC.sub]) (by simp [AC.sub])
theorem a5r {st:St} {x k:Nat} {d:List C}:(st.sub k AC.un).newBx x [.nl d]=(st.newBx x [.nl d]).sub k AC.un:=A7b (by simp [AC.dropB]) (by simp [F4,A6,AC.sub,AC.dropB])
theorem c2z {Γ:Ctx} {X:List Nat} {st:St} {s:List (Bool×Nat×AOper)} {more:List (List (Bool×Nat×AOper))} {Q:Prop} (h:RM Γ X st s more) (k:Q):RM Γ X st s more∧Q:=⟨h,k⟩
end Go.Aw
namespace Go.Aw
theorem c8b {o:Option (Prop×St)} {K:St→Prop} (h:J1 o K):∃ S,J1 o (fun x=>S=x)∧K S:=by
 cases o with
 | none=>exact h.elim
 | some q=>exact ⟨q.2,⟨h.1,rfl⟩,h.2⟩
theorem b4E {Γ:Ctx} {X:List Nat} {B0:Nat→Option (List AC)}:∀ {l:List (Bool×Nat×AOper)} {K:St→Prop} {st:St},O2 Γ X B0 l K st→∃ S,O2 Γ X B0 l (fun x=>S=x) st∧K S
 | [],K,st,h=>⟨st,rfl,h⟩
 | (b,i,o)::l,K,st,h=>by
   cases b<;>
   ·unfold O2 at h ⊢
    obtain ⟨S1,h1,h2⟩:=c8b h
    obtain ⟨S,h3,h4⟩:=b4E h2
    exact ⟨S,Q7 (fun s hs=>by subst hs;exact h3) h1,h4⟩
theorem a8q {Γ:Ctx} {X:List Nat} {B0:Nat→Option (List AC)} {r:List (Bool×Nat×AOper)} {K:St→Prop}:∀ {l:List (Bool×Nat×AOper)} {st:St},O2 Γ X B0 (l++r) K st↔O2 Γ X B0 l (O2 Γ X B0 r K) st
 | [],st=>Iff.rfl
 | (b,i,o)::l,st=>by
   cases b<;>
   ·rw [List.cons_append]
    unfold O2
    exact ⟨Q7 fun s hs=>a8q.1 hs,Q7 fun s hs=>a8q.2 hs⟩
theorem c5D (X:List Nat) (B:Nat→Option (List AC)):Q2 X B B:=by
 induction X with
 | nil=>trivial
 | cons x X ih=>exact ⟨rfl,ih⟩
theorem a8G {Γ:Ctx} {X:List Nat} {st:St} {s:List (Bool×Nat×AOper)} {more:List (List (Bool×Nat×AOper))} (n:Nat) (e:more=(more.map (List.drop n)).map (s.take n++·)) (h:∀ S:St,O2 Γ X st.bx (s.take n) (fun x=>S=x) st→∀ B0,Q2 X st.bx B0→∀ K:St→Prop,O2 Γ X B0 (s.drop n) K S→A3z Γ X B0 (more.map (List.drop n)) K S):RM Γ X st s more:=by
 intro K hk
 rw [← List.take_append_drop n s] at hk
 obtain ⟨S,h1,h2⟩:=b4E (a8q.1 hk)
 have h3:=h S h1 st.bx (c5D X st.bx) K h2
 rw [e]
 clear e h hk h2
 revert h3
 generalize more.map (List.drop n)=m
 induction m with
 | nil=>intro _;trivial
 | cons a m ih=>
   intro h3
   refine ⟨a8q.2 (Z5 (fun x hx=>?_) h1),ih h3.2⟩
   subst hx
   exact h3.1
section
variable {Γ:Ctx} {X:List Nat} {st:St} {s:List (Bool×Nat×AOper)}
end
end Go.Aw
