/- Marked lists whose rows take different numbers of marks. No condition. -/
import Derived.Test.YthlbadfickhkfaaGreathBwtzf
namespace Go.Aw
set_option linter.unusedVariables false
def mkL {α : Type} (f : α → Int → α) (c : α → Nat) : List α → Int → List α
 | [], _ => []
 | x :: l, k => f x k :: mkL f c l (k + (c x : Nat))
theorem a4d {α : Type} (f : α → Int → α) (c : α → Nat) : ∀ (l : List α) (k : Int), (mkL f c l k).length = l.length
 | [], _ => rfl
 | x :: l, k => by simp only [mkL, List.length_cons, a4d f c l]
theorem b7L {α : Type} (f : α → Int → α) (c : α → Nat) (r : List α) : ∀ (l : List α) (k : Int), mkL f c (l ++ r) k = mkL f c l k ++ mkL f c r (k + (i5 c l : Nat))
 | [], k => by simp [mkL, i5]
 | x :: l, k => by
   simp only [List.cons_append, mkL, b7L f c r l, i5]
   rw [show k + (c x : Nat) + (i5 c l : Nat) = k + ((c x + i5 c l : Nat) : Int) by omega]
theorem b7N {α : Type} (f : α → Int → α) (c : α → Nat) (a : List α) (k : Int) (i : Nat) : (mkL f c (a.take i) k ++ a.drop i).length = a.length := by
 rw [List.length_append, a4d, ← List.length_append, List.take_append_drop]
theorem b7M {α : Type} (f : α → Int → α) (c : α → Nat) {a : List α} {i : Nat} (d : α) (k : Int) (h : i < a.length) : (mkL f c (a.take i) k ++ a.drop i).getD i d = a.getD i d := by
 have e : (mkL f c (a.take i) k).length = i := by rw [a4d, List.length_take]; omega
 rw [List.getD_eq_getElem?_getD, List.getElem?_append_right (by omega), e, Nat.sub_self, List.getElem?_drop, Nat.add_zero, ← List.getD_eq_getElem?_getD]
theorem b7O {α : Type} (f : α → Int → α) (c : α → Nat) {a : List α} {i : Nat} (d : α) (k : Int) (h : i < a.length) : (mkL f c (a.take i) k ++ a.drop i).set i (f (a.getD i d) (k + (i5 c (a.take i) : Nat))) = mkL f c (a.take (i + 1)) k ++ a.drop (i + 1) := by
 have e : (mkL f c (a.take i) k).length = i := by rw [a4d, List.length_take]; omega
 have h1 : a.take (i + 1) = a.take i ++ [a.getD i d] := by
  rw [List.take_add_one, List.getD_eq_getElem?_getD, List.getElem?_eq_getElem h]; rfl
 rw [List.set_append_right _ _ (by omega), e, Nat.sub_self, h1, b7L, List.drop_eq_getElem_cons h, List.set_cons_zero]
 simp only [mkL, List.append_assoc, List.singleton_append]
theorem b4I {α : Type} (f g : α → Nat) (c : Nat) (h : ∀ x, f x ≤ c + c * g x) : ∀ l : List α, i5 f l ≤ c * (l.length + i5 g l)
 | [] => by simp [i5]
 | x :: l => by
   have h1 := h x
   have h2 := b4I f g c h l
   simp only [i5, List.length_cons, Nat.mul_add, Nat.mul_one] at *
   omega
end Go.Aw
