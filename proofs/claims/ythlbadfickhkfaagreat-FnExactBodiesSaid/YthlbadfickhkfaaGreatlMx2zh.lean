/- Marked lists whose rows take different numbers of marks. No condition. -/
import Derived.Test.YthlbadfickhkfaaGreatlBwtzh
namespace Go.Aw
set_option linter.unusedVariables false
def mkL {α : Type} (f : α → Int → α) (c : α → Nat) : List α → Int → List α
 | [], _ => []
 | x :: l, k => f x k :: mkL f c l (k + (c x : Nat))
theorem a3s {α : Type} (f : α → Int → α) (c : α → Nat) : ∀ (l : List α) (k : Int), (mkL f c l k).length = l.length
 | [], _ => rfl
 | x :: l, k => by simp only [mkL, List.length_cons, a3s f c l]
theorem c0r {α : Type} (f : α → Int → α) (c : α → Nat) (r : List α) : ∀ (l : List α) (k : Int), mkL f c (l ++ r) k = mkL f c l k ++ mkL f c r (k + (i7 c l : Nat))
 | [], k => by simp [mkL, i7]
 | x :: l, k => by
   simp only [List.cons_append, mkL, c0r f c r l, i7]
   rw [show k + (c x : Nat) + (i7 c l : Nat) = k + ((c x + i7 c l : Nat) : Int) by omega]
theorem b4F {α : Type} (f : α → Int → α) (c : α → Nat) (a : List α) (k : Int) (i : Nat) : (mkL f c (a.take i) k ++ a.drop i).length = a.length := by
 rw [List.length_append, a3s, ← List.length_append, List.take_append_drop]
theorem b4E {α : Type} (f : α → Int → α) (c : α → Nat) {a : List α} {i : Nat} (d : α) (k : Int) (h : i < a.length) : (mkL f c (a.take i) k ++ a.drop i).getD i d = a.getD i d := by
 have e : (mkL f c (a.take i) k).length = i := by rw [a3s, List.length_take]; omega
 rw [List.getD_eq_getElem?_getD, List.getElem?_append_right (by omega), e, Nat.sub_self, List.getElem?_drop, Nat.add_zero, ← List.getD_eq_getElem?_getD]
theorem b4G {α : Type} (f : α → Int → α) (c : α → Nat) {a : List α} {i : Nat} (d : α) (k : Int) (h : i < a.length) : (mkL f c (a.take i) k ++ a.drop i).set i (f (a.getD i d) (k + (i7 c (a.take i) : Nat))) = mkL f c (a.take (i + 1)) k ++ a.drop (i + 1) := by
 have e : (mkL f c (a.take i) k).length = i := by rw [a3s, List.length_take]; omega
 have h1 : a.take (i + 1) = a.take i ++ [a.getD i d] := by
  rw [List.take_add_one, List.getD_eq_getElem?_getD, List.getElem?_eq_getElem h]; rfl
 rw [List.set_append_right _ _ (by omega), e, Nat.sub_self, h1, c0r, List.drop_eq_getElem_cons h, List.set_cons_zero]
 simp only [mkL, List.append_assoc, List.singleton_append]
theorem c8b {α : Type} (f : α → Int → α) (c : α → Nat) (d : α) (a : List α) (k : Int) {i : Nat} (h : i < a.length) : (mkL f c a k).getD i d = f (a.getD i d) (k + (i7 c (a.take i) : Nat)) := by
 have e : (mkL f c (a.take i) k).length = i := by rw [a3s, List.length_take]; omega
 conv => lhs; rw [← List.take_append_drop i a, c0r, List.drop_eq_getElem_cons h]
 rw [List.getD_eq_getElem?_getD, List.getElem?_append_right (by omega), e, Nat.sub_self]
 rw [List.getD_eq_getElem?_getD, List.getElem?_eq_getElem h]
 rfl
theorem c1z {α : Type} (f : α → Int → α) (c : α → Nat) (hc : ∀ x k, c (f x k) = c x) (hf : ∀ x k j, f (f x k) j = f x j) : ∀ (l : List α) (k j : Int), mkL f c (mkL f c l k) j = mkL f c l j
 | [], _, _ => rfl
 | x :: l, k, j => by simp only [mkL, hc, hf, c1z f c hc hf l]
theorem b6S {α : Type} (f : α → Int → α) (c : α → Nat) (hc : ∀ x k, c (f x k) = c x) : ∀ (l : List α) (k : Int), i7 c (mkL f c l k) = i7 c l
 | [], _ => rfl
 | x :: l, k => by simp only [mkL, i7, hc, b6S f c hc l]
theorem b4H {α : Type} (f g : α → Nat) (c : Nat) (h : ∀ x, f x ≤ c + c * g x) : ∀ l : List α, i7 f l ≤ c * (l.length + i7 g l)
 | [] => by simp [i7]
 | x :: l => by
   have h1 := h x
   have h2 := b4H f g c h l
   simp only [i7, List.length_cons, Nat.mul_add, Nat.mul_one] at *
   omega
end Go.Aw
