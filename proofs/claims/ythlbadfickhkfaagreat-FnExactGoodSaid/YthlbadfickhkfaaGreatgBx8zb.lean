/- An owned slice may be given up at any place. No condition. -/
import Derived.Test.YthlbadfickhkfaaGreatgBwc
namespace Go.Aw
theorem aw_frK {P : Program} {Γ : Ctx} {N : Nat} {e : E P Γ N} {Q : Exit → St → Prop} {st : St} {x : ACode} (k : Nat) (h : AW e x Q (st.frK k)) : AW e x Q st := by
  intro c hc γ a w hS
  obtain ⟨γ', hS', _⟩ := hS.frK k
  exact h c hc γ' a w hS'
theorem aw_keys {P : Program} {Γ : Ctx} {N : Nat} {e : E P Γ N} {Q : Exit → St → Prop} {st : St} {x : ACode} (dp : Bool) (cm : List (Bool × Nat × Nat × Nat)) (h : AW e x Q (st.keys dp cm)) : AW e x Q st := by
  intro c hc γ a w hS
  obtain ⟨γ', hS'⟩ := hS.keys dp (l := cm)
  exact h c hc γ' a w hS'
theorem RM_mk {Γ : Ctx} {X : List Nat} {st : St} {s : List (Bool × Nat × AOper)} {more : List (List (Bool × Nat × AOper))} {Q : Prop} (h : RM Γ X st s more) (k : Q) : RM Γ X st s more ∧ Q := ⟨h, k⟩
end Go.Aw
namespace Go.Aw
theorem stepK_ex {o : Option (Prop × St)} {K : St → Prop} (h : stepK o K) : ∃ S, stepK o (fun x => S = x) ∧ K S := by
  cases o with
  | none => exact h.elim
  | some q => exact ⟨q.2, ⟨h.1, rfl⟩, h.2⟩
theorem orun_reach {Γ : Ctx} {X : List Nat} {B0 : Nat → Option (List AC)} : ∀ {l : List (Bool × Nat × AOper)} {K : St → Prop} {st : St}, orun Γ X B0 l K st → ∃ S, orun Γ X B0 l (fun x => S = x) st ∧ K S
  | [], K, st, h => ⟨st, rfl, h⟩
  | (b, i, o) :: l, K, st, h => by
    cases b <;>
    · unfold orun at h ⊢
      obtain ⟨S1, h1, h2⟩ := stepK_ex h
      obtain ⟨S, h3, h4⟩ := orun_reach h2
      exact ⟨S, stepK_mono (fun s hs => by subst hs; exact h3) h1, h4⟩
theorem orun_app {Γ : Ctx} {X : List Nat} {B0 : Nat → Option (List AC)} {r : List (Bool × Nat × AOper)} {K : St → Prop} : ∀ {l : List (Bool × Nat × AOper)} {st : St}, orun Γ X B0 (l ++ r) K st ↔ orun Γ X B0 l (orun Γ X B0 r K) st
  | [], st => Iff.rfl
  | (b, i, o) :: l, st => by
    cases b <;>
    · rw [List.cons_append]
      unfold orun
      exact ⟨stepK_mono fun s hs => orun_app.1 hs, stepK_mono fun s hs => orun_app.2 hs⟩
theorem keepB_rfl (X : List Nat) (B : Nat → Option (List AC)) : keepB X B B := by
  induction X with
  | nil => trivial
  | cons x X ih => exact ⟨rfl, ih⟩
theorem RM_pre {Γ : Ctx} {X : List Nat} {st : St} {s : List (Bool × Nat × AOper)} {more : List (List (Bool × Nat × AOper))} (n : Nat) (e : more = (more.map (List.drop n)).map (s.take n ++ ·)) (h : ∀ S : St, orun Γ X st.bx (s.take n) (fun x => S = x) st → ∀ B0, keepB X st.bx B0 → ∀ K : St → Prop, orun Γ X B0 (s.drop n) K S → orunL Γ X B0 (more.map (List.drop n)) K S) : RM Γ X st s more := by
  intro K hk
  rw [← List.take_append_drop n s] at hk
  obtain ⟨S, h1, h2⟩ := orun_reach (orun_app.1 hk)
  have h3 := h S h1 st.bx (keepB_rfl X st.bx) K h2
  rw [e]
  clear e h hk h2
  revert h3
  generalize more.map (List.drop n) = m
  induction m with
  | nil => intro _; trivial
  | cons a m ih =>
    intro h3
    refine ⟨orun_app.2 (orun_mono (fun x hx => ?_) h1), ih h3.2⟩
    subst hx
    exact h3.1
end Go.Aw
