/- Marked lists whose rows take different numbers of marks. No condition. -/
import Derived.Test.YthlbadfickhkfaaGreatgBwtza
namespace Go.Aw
set_option linter.unusedVariables false
def mkL {α : Type} (f : α → Int → α) (c : α → Nat) : List α → Int → List α
  | [], _ => []
  | x :: l, k => f x k :: mkL f c l (k + (c x : Nat))
theorem mkL_length {α : Type} (f : α → Int → α) (c : α → Nat) : ∀ (l : List α) (k : Int), (mkL f c l k).length = l.length
  | [], _ => rfl
  | x :: l, k => by simp only [mkL, List.length_cons, mkL_length f c l]
theorem mkL_app {α : Type} (f : α → Int → α) (c : α → Nat) (r : List α) : ∀ (l : List α) (k : Int), mkL f c (l ++ r) k = mkL f c l k ++ mkL f c r (k + (tots c l : Nat))
  | [], k => by simp [mkL, tots]
  | x :: l, k => by
    simp only [List.cons_append, mkL, mkL_app f c r l, tots]
    rw [show k + (c x : Nat) + (tots c l : Nat) = k + ((c x + tots c l : Nat) : Int) by omega]
theorem mkL_len {α : Type} (f : α → Int → α) (c : α → Nat) (a : List α) (k : Int) (i : Nat) : (mkL f c (a.take i) k ++ a.drop i).length = a.length := by
  rw [List.length_append, mkL_length, ← List.length_append, List.take_append_drop]
theorem mkL_get {α : Type} (f : α → Int → α) (c : α → Nat) {a : List α} {i : Nat} (d : α) (k : Int) (h : i < a.length) : (mkL f c (a.take i) k ++ a.drop i).getD i d = a.getD i d := by
  have e : (mkL f c (a.take i) k).length = i := by rw [mkL_length, List.length_take]; omega
  rw [List.getD_eq_getElem?_getD, List.getElem?_append_right (by omega), e, Nat.sub_self, List.getElem?_drop, Nat.add_zero, ← List.getD_eq_getElem?_getD]
theorem mkL_set {α : Type} (f : α → Int → α) (c : α → Nat) {a : List α} {i : Nat} (d : α) (k : Int) (h : i < a.length) : (mkL f c (a.take i) k ++ a.drop i).set i (f (a.getD i d) (k + (tots c (a.take i) : Nat))) = mkL f c (a.take (i + 1)) k ++ a.drop (i + 1) := by
  have e : (mkL f c (a.take i) k).length = i := by rw [mkL_length, List.length_take]; omega
  have h1 : a.take (i + 1) = a.take i ++ [a.getD i d] := by
    rw [List.take_add_one, List.getD_eq_getElem?_getD, List.getElem?_eq_getElem h]; rfl
  rw [List.set_append_right _ _ (by omega), e, Nat.sub_self, h1, mkL_app, List.drop_eq_getElem_cons h, List.set_cons_zero]
  simp only [mkL, List.append_assoc, List.singleton_append]
theorem mkL_getD {α : Type} (f : α → Int → α) (c : α → Nat) (d : α) (a : List α) (k : Int) {i : Nat} (h : i < a.length) : (mkL f c a k).getD i d = f (a.getD i d) (k + (tots c (a.take i) : Nat)) := by
  have e : (mkL f c (a.take i) k).length = i := by rw [mkL_length, List.length_take]; omega
  conv => lhs; rw [← List.take_append_drop i a, mkL_app, List.drop_eq_getElem_cons h]
  rw [List.getD_eq_getElem?_getD, List.getElem?_append_right (by omega), e, Nat.sub_self]
  rw [List.getD_eq_getElem?_getD, List.getElem?_eq_getElem h]
  rfl
theorem mkL_idem {α : Type} (f : α → Int → α) (c : α → Nat) (hc : ∀ x k, c (f x k) = c x) (hf : ∀ x k j, f (f x k) j = f x j) : ∀ (l : List α) (k j : Int), mkL f c (mkL f c l k) j = mkL f c l j
  | [], _, _ => rfl
  | x :: l, k, j => by simp only [mkL, hc, hf, mkL_idem f c hc hf l]
theorem mkL_tots {α : Type} (f : α → Int → α) (c : α → Nat) (hc : ∀ x k, c (f x k) = c x) : ∀ (l : List α) (k : Int), tots c (mkL f c l k) = tots c l
  | [], _ => rfl
  | x :: l, k => by simp only [mkL, tots, hc, mkL_tots f c hc l]
theorem tots_bd {α : Type} (f g : α → Nat) (c : Nat) (h : ∀ x, f x ≤ c + c * g x) : ∀ l : List α, tots f l ≤ c * (l.length + tots g l)
  | [] => by simp [tots]
  | x :: l => by
    have h1 := h x
    have h2 := tots_bd f g c h l
    simp only [tots, List.length_cons, Nat.mul_add, Nat.mul_one] at *
    omega
end Go.Aw
