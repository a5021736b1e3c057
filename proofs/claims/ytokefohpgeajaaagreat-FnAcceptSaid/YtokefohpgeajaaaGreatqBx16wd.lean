/- Texts joined: a contract out of the shelf. No condition. -/
import Derived.Test.YtokefohpgeajaaaGreatqBx5wd
import Derived.Test.YtokefohpgeajaaaGreatqDr6wd
import Derived.Below
import Derived.Lib.Join
namespace Go.Aw
open Go.Proofs Go.Lib Go.RowKit
set_option linter.all false
variable {P:Program}
def c8e {f:FuncId} (hc:F9 P f=true)
  (run0:∀ (a:Option Addr) (c:Nat) (sep:ByteArray) (w:World),Calls P f #[.slice a 0 c,.string sep] w fun e w'=>e=.returned (.string ⟨#[]⟩)/\w' = w)
  (run:∀ (bk o c:Nat) (xs:List ByteArray) (sep:ByteArray) (w:World),(∀ (j:Nat) x,xs[j]? = some x->w.cell? ⟨bk,o+j,none⟩=some (.string x))->bk < w.heap.size->xs.length<=140737488355328->xs.length<=c->(Lib.join (xs.map (·.data.toList)) sep.data.toList).length<=140737488355328->
    Calls P f #[.slice (some ⟨bk,o,none⟩) xs.length c,.string sep] w fun e w'=>e=.returned (.string ⟨(Lib.join (xs.map (·.data.toList)) sep.data.toList).toArray⟩)/\Below w.heap.size w w')
  (l:List (List UInt8)) (sep:List UInt8) (hl:l.length<=1000000) (hj:(Lib.join l sep).length<=1000000):A0d P f [(false,[.sl false [.s []] (l.map w6)]),(false,[.s sep])] [] (.one (false,[.s (Lib.join l sep)])):=by
 unfold A0d;refine ⟨hc, ?_⟩;intro F w vs fpa h hnd hnf hF;unfold VsRd at h;obtain ⟨v,r,f1,f2,rfl,rfl,h,hr⟩:=h;unfold VsRd at hr;obtain ⟨v2,r2,g1,g2,rfl,rfl,h2,hr⟩:=hr;unfold VsRd at hr;obtain ⟨rfl,rfl⟩:=hr;simp only [VRd] at h h2;obtain ⟨c,hc1,h⟩:=h;simp only [V2,q0F] at hc1;subst hc1;obtain ⟨c,hc1,h2⟩:=h2;simp only [V2,q0F] at hc1;subst hc1;unfold C.Rd at h h2;obtain ⟨rfl,hs,rfl⟩:=h2;obtain ⟨a,cap,rfl,h1,h2,h3,h4⟩:=h;simp only [W4] at h4;obtain ⟨rfl,h4⟩:=h4;simp only [q0A] at hnd hnf ⊢;have fin:∀ w':World,Below w.heap.size w w'->w.drawn<=w'.drawn->∃ F' v fp fo,(Ending.returned (.string ⟨(Lib.join l sep).toArray⟩))=.returned v/\RRd F' w' (.one (false,[.s (Lib.join l sep)])) v fp/\OutRd F' w' [.slice a (l.map w6).length cap,.string ⟨sep.toArray⟩] [] fo/\Post F F' [] (fp++fo) w w':=fun w' hb hd=>by
  refine ⟨F,_,[],[],rfl, ?_,rfl,⟨fun _ h=>h,fun _ h=>.inl h,fun x hx=>q1T (hF x hx) hb.size,q0O,by simp,fun b hb2 _=>hb.block b hb2,hb.size,hb.os,⟨hb.tape,hd⟩,hb.output⟩⟩;simp only [RRd,VRd];refine ⟨_,rfl, ?_⟩;unfold C.Rd;exact ⟨rfl,by unfold maxLen;omega,rfl⟩
 rcases h4 with h4|⟨b,o,vs,rfl,hb,hca,hr⟩
 ·have hl0:l=[]:=by simpa using h4
  subst hl0;refine (run0 a cap ⟨sep.toArray⟩ w).mono ?_;rintro e w' ⟨rfl,rfl⟩;exact fin _ (Below.refl _ _) (V7 _)
 ·obtain ⟨rfl,_,_⟩:=a3s hr;have hx:(l.map fun s=>(⟨s.toArray⟩:ByteArray)).map (·.data.toList)=l:=by
   rw [q3L];exact List.map_id'' (fun s=>rfl) l
  have hcl:=Go.Aw.Calls.drawn (run b o cap (l.map fun s=>(⟨s.toArray⟩:ByteArray)) ⟨sep.toArray⟩ w (fun j x hj2=>by
   rw [q4I] at hj2;obtain ⟨y,hy,rfl⟩:=W6.1 hj2;obtain ⟨hj3,rfl⟩:=q1D.1 hy;have:=hca j (by simpa using hj3);simp only [q4M] at this;exact this) (hF b hb) (by rw [q1W];omega) (by rw [q1W];simpa using h1) (by rw [hx];show (Lib.join l sep).length<=_;omega))
  rw [q1W] at hcl;rw [show (l.map w6).length=l.length by simp];refine hcl.mono ?_;rintro e w' ⟨⟨rfl,hbl⟩,hd⟩;rw [hx];exact fin w' hbl (hd ⟨_,rfl⟩)
end Go.Aw
