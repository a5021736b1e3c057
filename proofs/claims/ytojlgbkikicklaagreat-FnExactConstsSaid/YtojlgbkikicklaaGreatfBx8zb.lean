/- An owned slice may be given up at any place. No condition. -/
import Derived.Test.YtojlgbkikicklaaGreatfBwc
namespace Go.Aw
theorem aw_frK {P : Program} {Γ : Ctx} {N : Nat} {e : E P Γ N} {Q : Exit → St → Prop} {st : St} {x : ACode} (k : Nat) (h : AW e x Q (st.frK k)) : AW e x Q st := by
  intro c hc γ a w hS
  obtain ⟨γ', hS', _⟩ := hS.frK k
  exact h c hc γ' a w hS'
end Go.Aw
