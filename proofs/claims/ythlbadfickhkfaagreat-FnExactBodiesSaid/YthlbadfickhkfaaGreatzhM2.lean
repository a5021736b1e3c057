/- Marked lists. No condition. -/
import Derived.Test.YthlbadfickhkfaaGreatzhM1
import Derived.Test.YthlbadfickhkfaaGreatlBwtzh
namespace Go.Aw
open Go.Proofs
attribute [local irreducible] aft blk lpK retK AW A0m
set_option linter.unusedVariables false
set_option linter.unusedSimpArgs false
set_option maxRecDepth 100000
def a9O (k : Int) : c6 := (c6.mk k (a3t (k + 1)))
def a0e (n : Nat) (k : Int) : List c6 := (List.range n).map fun i : Nat => a9O (k + 2 * (i : Int))
theorem a0O (n : Nat) (k : Int) : (a0e n k).length = n := by simp [a0e]
theorem b4B (n : Nat) (k : Int) {i : Nat} (h : i < n) : (a0e n k).getD i default = a9O (k + 2 * (i : Int)) := by
 rw [List.getD_eq_getElem?_getD, a0e, List.getElem?_map, List.getElem?_range h]
 rfl
def a2B (k : Int) : c7 := (c7.mk (a3t k) (c6.mk (k + 1) (a3t (k + 2))))
def z5 (n : Nat) (k : Int) : List c7 := (List.range n).map fun i : Nat => a2B (k + 3 * (i : Int))
theorem z6 (n : Nat) (k : Int) : (z5 n k).length = n := by simp [z5]
theorem a8a (n : Nat) (k : Int) {i : Nat} (h : i < n) : (z5 n k).getD i default = a2B (k + 3 * (i : Int)) := by
 rw [List.getD_eq_getElem?_getD, z5, List.getElem?_map, List.getElem?_range h]
 rfl
def b2C (k : Int) : c4 := (c4.mk (a3t k) (c6.mk (k + 1) (a3t (k + 2))))
def m7 (n : Nat) (k : Int) : List c4 := (List.range n).map fun i : Nat => b2C (k + 3 * (i : Int))
theorem a1A (n : Nat) (k : Int) : (m7 n k).length = n := by simp [m7]
theorem b6Q (n : Nat) (k : Int) {i : Nat} (h : i < n) : (m7 n k).getD i default = b2C (k + 3 * (i : Int)) := by
 rw [List.getD_eq_getElem?_getD, m7, List.getElem?_map, List.getElem?_range h]
 rfl
def a2I : ACode := q' ([z' 4 0]) (.seq (q' ([z' 5 0]) (.block 0 (.loop (.seq (q' ([m' 6 5, m' 7 0, n' 8 7, r' 9 6 8]) (.cond (.t 9) .skip (.exit 0))) (.seq (.block 1 (q' ([m' 12
 0, m' 13 5, m' 14 1, i' 15 2 12 13, f' 16 0 15, s' 1 16 14]) (q' ([m' 17 1, a' 18 17, m' 1 18]) (q' ([m' 19 0, m' 20 5, m' 21 1, c' 22 85 [21], i' 23 2 19 20,
 f' 24 1 23, s' 1 24 22]) (g' [m' 25 1, a' 26 25, m' 1 26]))))) (g' [m' 10 5, a' 11 10, m' 5 11])))))) (q' ([m' 27 1, m' 4 27]) .ret))
theorem a9K : cmp Tryz.prog Tryz.f211 = some a2I := by kernel_rfl
theorem b0Q (a : List c6) (k : Int) (hpre : 0 ≤ k ∧ k + 2 * (a.length : Nat) ≤ 4611686018427387904) : A0m Tryz.prog 211 [(false, [.sl true [.i .i64 0, .s []] (a.map c6.cells)]), (false, [.i .i64 k])] [(0, (false, [.sl true [.i .i64 0, .s []] ((a0e a.length k).map c6.cells)]))] (.one (false, [.i .i64 (k + 2 * (a.length : Nat))])) := by
 refine spec_of2 true false (some 0) Tryz.func211 a9K (rvs := [.t 4]) (hΓ := mkCtx_ok (deep := true) (l := [(85, [], p9)]) ⟨s6, trivial⟩) (h := ?_)
 intro hb hE
 simp only [go_sem] at hb
 simp only [a2I, x']
 (try refine A2Z ?_); simp only [go_sem]; (repeat' first | apply CJ.mk | intro hc); all_goals try ((repeat' first | apply And.intro | intro hs) <;> (try simp only [go_sem, Bool.and_eq_false_iff] at hs) <;> omega)
 refine aw_loop2 true [] [0] [] [] (fun i : {p : Nat × (List c6) // p.1 ≤ a.length ∧ p.2.length = a.length ∧ p.2.take p.1 = (a0e a.length k).take p.1} => [(5, slV (.i .i64 i.1.1)), (1, slV (.i .i64 (k + 2 * (i.1.1 : Int))))]) (fun i => []) (fun i => [(1, [.i .i64 0, .s []], i.1.2.map c6.cells)]) (fun i => a.length - i.1.1) (⟨(0, a), by simp⟩) _ rfl ?_ ?_
 ·simp only [go_sem]
  all_goals first | omega | ((repeat' apply And.intro) <;> first | omega | rfl | skip)
 intro S0 hS0 i
 simp only [go_sem] at hS0
 obtain ⟨⟨i, L⟩, hi, hl, ht⟩ := i
 simp only at hi hl ht
 by_cases hil : (i : Int) < L.length
 ·have hgs : ∀ x, (L.set i x).getD i default = x := fun x => by rw [List.getD_eq_getElem?_getD, List.getElem?_set_self (by omega)]; rfl
  have hss : ∀ x y, (L.set i x).set i y = L.set i y := fun x y => List.set_set ..
  have hw0 : IntKind.i64.wrap (k + 2 * (i : Int) + 1) = k + 2 * (i : Int) + 1 := w64 (by omega) (by omega) (by omega)
  have hw1 : IntKind.i64.wrap (k + 2 * (i : Int) + 1 + 1) = k + 2 * (i : Int) + 2 := w64 (by omega) (by omega) (by omega)
  (try refine A2Z ?_); simp only [go_sem, hS0, hgs, hss, hil, hw0, hw1]; (repeat' first | apply CJ.mk | intro hc); all_goals try ((repeat' first | apply And.intro | intro hs) <;> (try simp only [go_sem, Bool.and_eq_false_iff] at hs) <;> omega)
  (refine lpK_n2 (⟨(i + 1, L.set i (a9O (k + 2 * (i : Int)))), by simp only; omega, by simp [hl], by rw [← b4B a.length k (show i < a.length by omega)]; exact t5 (by rw [hl, a0O]) ht (by rw [a0O]; omega)⟩) _ rfl ?_; simp only [go_sem, hS0, hgs, hss, hil, hw0, hw1]; first | done | ((repeat' apply And.intro) <;> first | omega | (refine w64 ?_ ?_ ?_ <;> omega) | rfl | skip))
  ·exact (hc trivial).elim
 ·(try refine A2Z ?_); simp only [go_sem, hS0, hil]; (repeat' first | apply CJ.mk | intro hc); all_goals try ((repeat' first | apply And.intro | intro hs) <;> (try simp only [go_sem, Bool.and_eq_false_iff] at hs) <;> omega)
  obtain rfl : i = a.length := by omega
  obtain rfl := o7 (by rw [hl, a0O]) ht (by rw [a0O]; omega)
  exact ⟨rfl, rfl⟩
noncomputable def a0E : CT := l8 (fun (x : (List c6) × Int) h => b0Q x.1 x.2 h)
@[go_sem] theorem c0Q (a : List c6) (k : Int) : a0E [(false, [.sl true [.i .i64 0, .s []] (a.map c6.cells)]), (false, [.i .i64 k])] = some (0 ≤ k ∧ k + 2 * (a.length : Nat) ≤ 4611686018427387904, [(0, (false, [.sl true [.i .i64 0, .s []] ((a0e a.length k).map c6.cells)]))], .one (false, [.i .i64 (k + 2 * (a.length : Nat))])) := f9 _ (by rintro ⟨_, _⟩ ⟨_, _⟩ h; simp at h; simp_all) (a, k)
theorem a7N : OkC Tryz.prog 211 a0E := i3 _
def a3y : ACode := q' ([z' 4 0]) (.seq (q' ([z' 5 0]) (.block 0 (.loop (.seq (q' ([m' 6 5, m' 7 0, n' 8 7, r' 9 6 8]) (.cond (.t 9) .skip (.exit 0))) (.seq (.block 1 (q' ([m' 12
 0, m' 13 5, m' 14 1, c' 15 85 [14], i' 16 3 12 13, f' 17 0 16, s' 1 17 15]) (q' ([m' 18 1, a' 19 18, m' 1 19]) (q' ([m' 20 0, m' 21 5, m' 22 1, i' 23 3 20 21,
 f' 24 1 23, f' 25 0 24, s' 1 25 22]) (q' ([m' 26 1, a' 27 26, m' 1 27]) (q' ([m' 28 0, m' 29 5, m' 30 1, c' 31 85 [30], i' 32 3 28 29, f' 33 1 32, f' 34 1 33,
 s' 1 34 31]) (g' [m' 35 1, a' 36 35, m' 1 36]))))))) (g' [m' 10 5, a' 11 10, m' 5 11])))))) (q' ([m' 37 1, m' 4 37]) .ret))
theorem b0B : cmp Tryz.prog Tryz.f126 = some a3y := by kernel_rfl
theorem b2r (a : List c7) (k : Int) (hpre : 0 ≤ k ∧ k + 3 * (a.length : Nat) ≤ 4611686018427387904) : A0m Tryz.prog 126 [(false, [.sl true [.s [], .i .i64 0, .s []] (a.map c7.cells)]), (false, [.i .i64 k])] [(0, (false, [.sl true [.s [], .i .i64 0, .s []] ((z5 a.length k).map c7.cells)]))] (.one (false, [.i .i64 (k + 3 * (a.length : Nat))])) := by
 refine spec_of2 true false (some 0) Tryz.func126 b0B (rvs := [.t 4]) (hΓ := mkCtx_ok (deep := true) (l := [(85, [], p9)]) ⟨s6, trivial⟩) (h := ?_)
 intro hb hE
 simp only [go_sem] at hb
 simp only [a3y, x']
 (try refine A2Z ?_); simp only [go_sem]; (repeat' first | apply CJ.mk | intro hc); all_goals try ((repeat' first | apply And.intro | intro hs) <;> (try simp only [go_sem, Bool.and_eq_false_iff] at hs) <;> omega)
 refine aw_loop2 true [] [0] [] [] (fun i : {p : Nat × (List c7) // p.1 ≤ a.length ∧ p.2.length = a.length ∧ p.2.take p.1 = (z5 a.length k).take p.1} => [(5, slV (.i .i64 i.1.1)), (1, slV (.i .i64 (k + 3 * (i.1.1 : Int))))]) (fun i => []) (fun i => [(1, [.s [], .i .i64 0, .s []], i.1.2.map c7.cells)]) (fun i => a.length - i.1.1) (⟨(0, a), by simp⟩) _ rfl ?_ ?_
 ·simp only [go_sem]
  all_goals first | omega | ((repeat' apply And.intro) <;> first | omega | rfl | skip)
 intro S0 hS0 i
 simp only [go_sem] at hS0
 obtain ⟨⟨i, L⟩, hi, hl, ht⟩ := i
 simp only at hi hl ht
 by_cases hil : (i : Int) < L.length
 ·have hgs : ∀ x, (L.set i x).getD i default = x := fun x => by rw [List.getD_eq_getElem?_getD, List.getElem?_set_self (by omega)]; rfl
  have hss : ∀ x y, (L.set i x).set i y = L.set i y := fun x y => List.set_set ..
  have hw0 : IntKind.i64.wrap (k + 3 * (i : Int) + 1) = k + 3 * (i : Int) + 1 := w64 (by omega) (by omega) (by omega)
  have hw1 : IntKind.i64.wrap (k + 3 * (i : Int) + 1 + 1) = k + 3 * (i : Int) + 2 := w64 (by omega) (by omega) (by omega)
  have hw2 : IntKind.i64.wrap (k + 3 * (i : Int) + 2 + 1) = k + 3 * (i : Int) + 3 := w64 (by omega) (by omega) (by omega)
  (try refine A2Z ?_); simp only [go_sem, hS0, hgs, hss, hil, hw0, hw1, hw2]; (repeat' first | apply CJ.mk | intro hc); all_goals try ((repeat' first | apply And.intro | intro hs) <;> (try simp only [go_sem, Bool.and_eq_false_iff] at hs) <;> omega)
  (refine lpK_n2 (⟨(i + 1, L.set i (a2B (k + 3 * (i : Int)))), by simp only; omega, by simp [hl], by rw [← a8a a.length k (show i < a.length by omega)]; exact t5 (by rw [hl, z6]) ht (by rw [z6]; omega)⟩) _ rfl ?_; simp only [go_sem, hS0, hgs, hss, hil, hw0, hw1, hw2]; first | done | ((repeat' apply And.intro) <;> first | omega | (refine w64 ?_ ?_ ?_ <;> omega) | rfl | skip))
  ·exact (hc trivial).elim
 ·(try refine A2Z ?_); simp only [go_sem, hS0, hil]; (repeat' first | apply CJ.mk | intro hc); all_goals try ((repeat' first | apply And.intro | intro hs) <;> (try simp only [go_sem, Bool.and_eq_false_iff] at hs) <;> omega)
  obtain rfl : i = a.length := by omega
  obtain rfl := o7 (by rw [hl, z6]) ht (by rw [z6]; omega)
  exact ⟨rfl, rfl⟩
noncomputable def a0X : CT := l8 (fun (x : (List c7) × Int) h => b2r x.1 x.2 h)
@[go_sem] theorem c1S (a : List c7) (k : Int) : a0X [(false, [.sl true [.s [], .i .i64 0, .s []] (a.map c7.cells)]), (false, [.i .i64 k])] = some (0 ≤ k ∧ k + 3 * (a.length : Nat) ≤ 4611686018427387904, [(0, (false, [.sl true [.s [], .i .i64 0, .s []] ((z5 a.length k).map c7.cells)]))], .one (false, [.i .i64 (k + 3 * (a.length : Nat))])) := f9 _ (by rintro ⟨_, _⟩ ⟨_, _⟩ h; simp at h; simp_all) (a, k)
theorem a8o : OkC Tryz.prog 126 a0X := i3 _
def a3A : ACode := q' ([z' 4 0]) (.seq (q' ([z' 5 0]) (.block 0 (.loop (.seq (q' ([m' 6 5, m' 7 0, n' 8 7, r' 9 6 8]) (.cond (.t 9) .skip (.exit 0))) (.seq (.block 1 (q' ([m' 12
 0, m' 13 5, m' 14 1, c' 15 85 [14], i' 16 3 12 13, f' 17 0 16, s' 1 17 15]) (q' ([m' 18 1, a' 19 18, m' 1 19]) (q' ([m' 20 0, m' 21 5, m' 22 1, i' 23 3 20 21,
 f' 24 1 23, f' 25 0 24, s' 1 25 22]) (q' ([m' 26 1, a' 27 26, m' 1 27]) (q' ([m' 28 0, m' 29 5, m' 30 1, c' 31 85 [30], i' 32 3 28 29, f' 33 1 32, f' 34 1 33,
 s' 1 34 31]) (g' [m' 35 1, a' 36 35, m' 1 36]))))))) (g' [m' 10 5, a' 11 10, m' 5 11])))))) (q' ([m' 37 1, m' 4 37]) .ret))
theorem b0D : cmp Tryz.prog Tryz.f145 = some a3A := by kernel_rfl
theorem b2t (a : List c4) (k : Int) (hpre : 0 ≤ k ∧ k + 3 * (a.length : Nat) ≤ 4611686018427387904) : A0m Tryz.prog 145 [(false, [.sl true [.s [], .i .i64 0, .s []] (a.map c4.cells)]), (false, [.i .i64 k])] [(0, (false, [.sl true [.s [], .i .i64 0, .s []] ((m7 a.length k).map c4.cells)]))] (.one (false, [.i .i64 (k + 3 * (a.length : Nat))])) := by
 refine spec_of2 true false (some 0) Tryz.func145 b0D (rvs := [.t 4]) (hΓ := mkCtx_ok (deep := true) (l := [(85, [], p9)]) ⟨s6, trivial⟩) (h := ?_)
 intro hb hE
 simp only [go_sem] at hb
 simp only [a3A, x']
 (try refine A2Z ?_); simp only [go_sem]; (repeat' first | apply CJ.mk | intro hc); all_goals try ((repeat' first | apply And.intro | intro hs) <;> (try simp only [go_sem, Bool.and_eq_false_iff] at hs) <;> omega)
 refine aw_loop2 true [] [0] [] [] (fun i : {p : Nat × (List c4) // p.1 ≤ a.length ∧ p.2.length = a.length ∧ p.2.take p.1 = (m7 a.length k).take p.1} => [(5, slV (.i .i64 i.1.1)), (1, slV (.i .i64 (k + 3 * (i.1.1 : Int))))]) (fun i => []) (fun i => [(1, [.s [], .i .i64 0, .s []], i.1.2.map c4.cells)]) (fun i => a.length - i.1.1) (⟨(0, a), by simp⟩) _ rfl ?_ ?_
 ·simp only [go_sem]
  all_goals first | omega | ((repeat' apply And.intro) <;> first | omega | rfl | skip)
 intro S0 hS0 i
 simp only [go_sem] at hS0
 obtain ⟨⟨i, L⟩, hi, hl, ht⟩ := i
 simp only at hi hl ht
 by_cases hil : (i : Int) < L.length
 ·have hgs : ∀ x, (L.set i x).getD i default = x := fun x => by rw [List.getD_eq_getElem?_getD, List.getElem?_set_self (by omega)]; rfl
  have hss : ∀ x y, (L.set i x).set i y = L.set i y := fun x y => List.set_set ..
  have hw0 : IntKind.i64.wrap (k + 3 * (i : Int) + 1) = k + 3 * (i : Int) + 1 := w64 (by omega) (by omega) (by omega)
  have hw1 : IntKind.i64.wrap (k + 3 * (i : Int) + 1 + 1) = k + 3 * (i : Int) + 2 := w64 (by omega) (by omega) (by omega)
  have hw2 : IntKind.i64.wrap (k + 3 * (i : Int) + 2 + 1) = k + 3 * (i : Int) + 3 := w64 (by omega) (by omega) (by omega)
  (try refine A2Z ?_); simp only [go_sem, hS0, hgs, hss, hil, hw0, hw1, hw2]; (repeat' first | apply CJ.mk | intro hc); all_goals try ((repeat' first | apply And.intro | intro hs) <;> (try simp only [go_sem, Bool.and_eq_false_iff] at hs) <;> omega)
  (refine lpK_n2 (⟨(i + 1, L.set i (b2C (k + 3 * (i : Int)))), by simp only; omega, by simp [hl], by rw [← b6Q a.length k (show i < a.length by omega)]; exact t5 (by rw [hl, a1A]) ht (by rw [a1A]; omega)⟩) _ rfl ?_; simp only [go_sem, hS0, hgs, hss, hil, hw0, hw1, hw2]; first | done | ((repeat' apply And.intro) <;> first | omega | (refine w64 ?_ ?_ ?_ <;> omega) | rfl | skip))
  ·exact (hc trivial).elim
 ·(try refine A2Z ?_); simp only [go_sem, hS0, hil]; (repeat' first | apply CJ.mk | intro hc); all_goals try ((repeat' first | apply And.intro | intro hs) <;> (try simp only [go_sem, Bool.and_eq_false_iff] at hs) <;> omega)
  obtain rfl : i = a.length := by omega
  obtain rfl := o7 (by rw [hl, a1A]) ht (by rw [a1A]; omega)
  exact ⟨rfl, rfl⟩
noncomputable def a0f : CT := l8 (fun (x : (List c4) × Int) h => b2t x.1 x.2 h)
@[go_sem] theorem c1U (a : List c4) (k : Int) : a0f [(false, [.sl true [.s [], .i .i64 0, .s []] (a.map c4.cells)]), (false, [.i .i64 k])] = some (0 ≤ k ∧ k + 3 * (a.length : Nat) ≤ 4611686018427387904, [(0, (false, [.sl true [.s [], .i .i64 0, .s []] ((m7 a.length k).map c4.cells)]))], .one (false, [.i .i64 (k + 3 * (a.length : Nat))])) := f9 _ (by rintro ⟨_, _⟩ ⟨_, _⟩ h; simp at h; simp_all) (a, k)
theorem a2q : OkC Tryz.prog 145 a0f := i3 _
end Go.Aw
