/- Bound variables. No condition. -/
import Derived.Test.YthlbadfickhkfaaGreatzfT3
namespace Go.Aw
open Go.Proofs
attribute [local irreducible] aft blk lpK retK AW A0l
set_option linter.unusedVariables false
set_option linter.unusedSimpArgs false
set_option maxRecDepth 100000
def b5t (l : c9) : Bool := l.Kind == 3 && l.Op == 1
inductive Bd (r : c6) : List UInt8 → Prop
 | base {l : c9} {t : c4} : l ∈ r.Body → (l.Kind == 1) = true → t ∈ l.Atom.Args → b1B t = true → Bd r t.Var
 | leftV {l : c9} : l ∈ r.Body → b5t l = true → b1B l.A = true → b1B l.B = false → Bd r l.A.Var
 | leftB {l : c9} : l ∈ r.Body → b5t l = true → b1B l.A = true → Bd r l.B.Var → Bd r l.A.Var
 | rightV {l : c9} : l ∈ r.Body → b5t l = true → b1B l.B = true → b1B l.A = false → Bd r l.B.Var
 | rightB {l : c9} : l ∈ r.Body → b5t l = true → b1B l.B = true → Bd r l.A.Var → Bd r l.B.Var
def a9L (out : List (List UInt8)) (t : c4) : Bool := t.Var == [] || out.contains t.Var
def b9X (out : List (List UInt8)) (l : c9) : Prop := b5t l = true → (a9L out l.A || a9L out l.B) = true → ∀ x ∈ b5N [l.A, l.B], x ∈ out
def baseIn (r : c6) (out : List (List UInt8)) : Prop := ∀ l ∈ r.Body, (l.Kind == 1) = true → ∀ x ∈ b5N l.Atom.Args, x ∈ out
theorem u9 {l : List c4} {x : List UInt8} : x ∈ b5N l ↔ ∃ t ∈ l, b1B t = true ∧ t.Var = x := by
 simp only [b5N, List.mem_map, List.mem_filter, and_assoc]
theorem Bd.mem {r : c6} {out : List (List UInt8)} (hb : baseIn r out) (hc : ∀ l ∈ r.Body, b9X out l) {v : List UInt8} (h : Bd r v) : v ∈ out := by
 induction h with
 | base hl hk ht hv => exact hb _ hl hk _ (u9.2 ⟨_, ht, hv, rfl⟩)
 | leftV hl he hv hn =>
   refine hc _ hl he ?_ _ (u9.2 ⟨_, by simp, hv, rfl⟩)
   simp only [b1B, Bool.not_eq_false'] at hn
   simp [a9L, hn]
 | leftB hl he hv _ ih =>
   refine hc _ hl he ?_ _ (u9.2 ⟨_, by simp, hv, rfl⟩)
   simp [a9L, ih]
 | rightV hl he hv hn =>
   refine hc _ hl he ?_ _ (u9.2 ⟨_, List.mem_cons_of_mem _ (List.mem_singleton.2 rfl), hv, rfl⟩)
   simp only [b1B, Bool.not_eq_false'] at hn
   simp [a9L, hn]
 | rightB hl he hv _ ih =>
   refine hc _ hl he ?_ _ (u9.2 ⟨_, List.mem_cons_of_mem _ (List.mem_singleton.2 rfl), hv, rfl⟩)
   simp [a9L, ih]
def allV (r : c6) : List (List UInt8) := r.Body.flatMap fun l => b5N l.Atom.Args ++ b5N [l.A, l.B]
theorem Bd.all {r : c6} {v : List UInt8} (h : Bd r v) : v ∈ allV r := by
 have hm : ∀ {l : c9} {x : List UInt8}, l ∈ r.Body → (x ∈ b5N l.Atom.Args ∨ x ∈ b5N [l.A, l.B]) → x ∈ allV r := fun hl hx => List.mem_flatMap.2 ⟨_, hl, List.mem_append.2 hx⟩
 cases h with
 | base hl hk ht hv => exact hm hl (.inl (u9.2 ⟨_, ht, hv, rfl⟩))
 | leftV hl he hv hn => exact hm hl (.inr (u9.2 ⟨_, by simp, hv, rfl⟩))
 | leftB hl he hv hn => exact hm hl (.inr (u9.2 ⟨_, by simp, hv, rfl⟩))
 | rightV hl he hv hn => exact hm hl (.inr (u9.2 ⟨_, List.mem_cons_of_mem _ (List.mem_singleton.2 rfl), hv, rfl⟩))
 | rightB hl he hv hn => exact hm hl (.inr (u9.2 ⟨_, List.mem_cons_of_mem _ (List.mem_singleton.2 rfl), hv, rfl⟩))
end Go.Aw
