/- Marked lists. No condition. -/
import Derived.Test.YthlbadfickhkfaaeaM1
import Derived.Test.YthlbadfickhkfaaiBwtea
namespace Go.Aw
open Go.Proofs
attribute [local irreducible] aft blk lpK retK AW A0l
set_option linter.unusedVariables false
set_option linter.unusedSimpArgs false
set_option maxRecDepth 100000
def a2O (k : Int) : c6 := (c6.mk k (a3t (k + 1)))
def l8 (n : Nat) (k : Int) : List c6 := (List.range n).map fun i : Nat => a2O (k + 2 * (i : Int))
theorem s7 (n : Nat) (k : Int) : (l8 n k).length = n := by simp [l8]
theorem a5e (n : Nat) (k : Int) {i : Nat} (h : i < n) : (l8 n k).getD i default = a2O (k + 2 * (i : Int)) := by
 rw [List.getD_eq_getElem?_getD, l8, List.getElem?_map, List.getElem?_range h]
 rfl
def v9 (k : Int) : c4 := (c4.mk (a3t k) (c6.mk (k + 1) (a3t (k + 2))))
def k6 (n : Nat) (k : Int) : List c4 := (List.range n).map fun i : Nat => v9 (k + 3 * (i : Int))
theorem l4 (n : Nat) (k : Int) : (k6 n k).length = n := by simp [k6]
theorem a1V (n : Nat) (k : Int) {i : Nat} (h : i < n) : (k6 n k).getD i default = v9 (k + 3 * (i : Int)) := by
 rw [List.getD_eq_getElem?_getD, k6, List.getElem?_map, List.getElem?_range h]
 rfl
def a4a (k : Int) : c7 := (c7.mk (a3t k) (c6.mk (k + 1) (a3t (k + 2))))
def t8 (n : Nat) (k : Int) : List c7 := (List.range n).map fun i : Nat => a4a (k + 3 * (i : Int))
theorem t9 (n : Nat) (k : Int) : (t8 n k).length = n := by simp [t8]
theorem a6e (n : Nat) (k : Int) {i : Nat} (h : i < n) : (t8 n k).getD i default = a4a (k + 3 * (i : Int)) := by
 rw [List.getD_eq_getElem?_getD, t8, List.getElem?_map, List.getElem?_range h]
 rfl
def w5 : ACode := q' ([z' 4 0]) (.seq (q' ([z' 5 0]) (.block 0 (.loop (.seq (q' ([m' 6 5, m' 7 0, n' 8 7, r' 9 6 8]) (.cond (.t 9) .skip (.exit 0))) (.seq (.block 1 (q' ([m' 12
 0, m' 13 5, m' 14 1, i' 15 2 12 13, f' 16 0 15, s' 1 16 14]) (q' ([m' 17 1, a' 18 17, m' 1 18]) (q' ([m' 19 0, m' 20 5, m' 21 1, c' 22 56 [21], i' 23 2 19 20,
 f' 24 1 23, s' 1 24 22]) (g' [m' 25 1, a' 26 25, m' 1 26]))))) (g' [m' 10 5, a' 11 10, m' 5 11])))))) (q' ([m' 27 1, m' 4 27]) .ret))
theorem a2N : cmp Try.prog Try.f57 = some w5 := by kernel_rfl
theorem a3s (a : List c6) (k : Int) (hpre : 0 ≤ k ∧ k + 2 * (a.length : Nat) ≤ 4611686018427387904) : A0l Try.prog 57 [(false, [.sl true [.i .i64 0, .s []] (a.map c6.cells)]), (false, [.i .i64 k])] [(0, (false, [.sl true [.i .i64 0, .s []] ((l8 a.length k).map c6.cells)]))] (.one (false, [.i .i64 (k + 2 * (a.length : Nat))])) := by
 refine spec_of2 true false (some 0) Try.func57 a2N (rvs := [.t 4]) (hΓ := mkCtx_ok (deep := true) (l := [(56, [], k7)]) ⟨l6, trivial⟩) (h := ?_)
 intro hb hE
 simp only [go_sem] at hb
 simp only [w5, x']
 (try refine A2V ?_); simp only [go_sem]; (repeat' first | apply CJ.mk | intro hc); all_goals try ((repeat' first | apply And.intro | intro hs) <;> (try simp only [go_sem, Bool.and_eq_false_iff] at hs) <;> omega)
 refine aw_loop2 true [] [0] [] [] (fun i : {p : Nat × (List c6) // p.1 ≤ a.length ∧ p.2.length = a.length ∧ p.2.take p.1 = (l8 a.length k).take p.1} => [(5, slV (.i .i64 i.1.1)), (1, slV (.i .i64 (k + 2 * (i.1.1 : Int))))]) (fun i => []) (fun i => [(1, [.i .i64 0, .s []], i.1.2.map c6.cells)]) (fun i => a.length - i.1.1) (⟨(0, a), by simp⟩) _ rfl ?_ ?_
 ·simp only [go_sem]
  all_goals first | omega | ((repeat' apply And.intro) <;> first | omega | rfl | skip)
 intro S0 hS0 i
 simp only [go_sem] at hS0
 obtain ⟨⟨i, L⟩, hi, hl, ht⟩ := i
 simp only at hi hl ht
 by_cases hil : (i : Int) < L.length
 ·have hgs : ∀ x, (L.set i x).getD i default = x := fun x => by rw [List.getD_eq_getElem?_getD, List.getElem?_set_self (by omega)]; rfl
  have hss : ∀ x y, (L.set i x).set i y = L.set i y := fun x y => List.set_set ..
  have hw0 : IntKind.i64.wrap (k + 2 * (i : Int) + 1) = k + 2 * (i : Int) + 1 := w64 (by omega) (by omega) (by omega)
  have hw1 : IntKind.i64.wrap (k + 2 * (i : Int) + 1 + 1) = k + 2 * (i : Int) + 2 := w64 (by omega) (by omega) (by omega)
  (try refine A2V ?_); simp only [go_sem, hS0, hgs, hss, hil, hw0, hw1]; (repeat' first | apply CJ.mk | intro hc); all_goals try ((repeat' first | apply And.intro | intro hs) <;> (try simp only [go_sem, Bool.and_eq_false_iff] at hs) <;> omega)
  (refine lpK_n2 (⟨(i + 1, L.set i (a2O (k + 2 * (i : Int)))), by simp only; omega, by simp [hl], by rw [← a5e a.length k (show i < a.length by omega)]; exact l9 (by rw [hl, s7]) ht (by rw [s7]; omega)⟩) _ rfl ?_; simp only [go_sem, hS0, hgs, hss, hil, hw0, hw1]; first | done | ((repeat' apply And.intro) <;> first | omega | (refine w64 ?_ ?_ ?_ <;> omega) | rfl | skip))
  ·exact (hc trivial).elim
 ·(try refine A2V ?_); simp only [go_sem, hS0, hil]; (repeat' first | apply CJ.mk | intro hc); all_goals try ((repeat' first | apply And.intro | intro hs) <;> (try simp only [go_sem, Bool.and_eq_false_iff] at hs) <;> omega)
  obtain rfl : i = a.length := by omega
  obtain rfl := l7 (by rw [hl, s7]) ht (by rw [s7]; omega)
  exact ⟨rfl, rfl⟩
noncomputable def p7 : CT := s6 (fun (x : (List c6) × Int) h => a3s x.1 x.2 h)
@[go_sem] theorem a7X (a : List c6) (k : Int) : p7 [(false, [.sl true [.i .i64 0, .s []] (a.map c6.cells)]), (false, [.i .i64 k])] = some (0 ≤ k ∧ k + 2 * (a.length : Nat) ≤ 4611686018427387904, [(0, (false, [.sl true [.i .i64 0, .s []] ((l8 a.length k).map c6.cells)]))], .one (false, [.i .i64 (k + 2 * (a.length : Nat))])) := i7 _ (by rintro ⟨_, _⟩ ⟨_, _⟩ h; simp at h; simp_all) (a, k)
theorem a1R : OkC Try.prog 57 p7 := i8 _
def z3 : ACode := q' ([z' 4 0]) (.seq (q' ([z' 5 0]) (.block 0 (.loop (.seq (q' ([m' 6 5, m' 7 0, n' 8 7, r' 9 6 8]) (.cond (.t 9) .skip (.exit 0))) (.seq (.block 1 (q' ([m' 12
 0, m' 13 5, m' 14 1, c' 15 56 [14], i' 16 3 12 13, f' 17 0 16, s' 1 17 15]) (q' ([m' 18 1, a' 19 18, m' 1 19]) (q' ([m' 20 0, m' 21 5, m' 22 1, i' 23 3 20 21,
 f' 24 1 23, f' 25 0 24, s' 1 25 22]) (q' ([m' 26 1, a' 27 26, m' 1 27]) (q' ([m' 28 0, m' 29 5, m' 30 1, c' 31 56 [30], i' 32 3 28 29, f' 33 1 32, f' 34 1 33,
 s' 1 34 31]) (g' [m' 35 1, a' 36 35, m' 1 36]))))))) (g' [m' 10 5, a' 11 10, m' 5 11])))))) (q' ([m' 37 1, m' 4 37]) .ret))
theorem a3n : cmp Try.prog Try.f55 = some z3 := by kernel_rfl
theorem a3X (a : List c4) (k : Int) (hpre : 0 ≤ k ∧ k + 3 * (a.length : Nat) ≤ 4611686018427387904) : A0l Try.prog 55 [(false, [.sl true [.s [], .i .i64 0, .s []] (a.map c4.cells)]), (false, [.i .i64 k])] [(0, (false, [.sl true [.s [], .i .i64 0, .s []] ((k6 a.length k).map c4.cells)]))] (.one (false, [.i .i64 (k + 3 * (a.length : Nat))])) := by
 refine spec_of2 true false (some 0) Try.func55 a3n (rvs := [.t 4]) (hΓ := mkCtx_ok (deep := true) (l := [(56, [], k7)]) ⟨l6, trivial⟩) (h := ?_)
 intro hb hE
 simp only [go_sem] at hb
 simp only [z3, x']
 (try refine A2V ?_); simp only [go_sem]; (repeat' first | apply CJ.mk | intro hc); all_goals try ((repeat' first | apply And.intro | intro hs) <;> (try simp only [go_sem, Bool.and_eq_false_iff] at hs) <;> omega)
 refine aw_loop2 true [] [0] [] [] (fun i : {p : Nat × (List c4) // p.1 ≤ a.length ∧ p.2.length = a.length ∧ p.2.take p.1 = (k6 a.length k).take p.1} => [(5, slV (.i .i64 i.1.1)), (1, slV (.i .i64 (k + 3 * (i.1.1 : Int))))]) (fun i => []) (fun i => [(1, [.s [], .i .i64 0, .s []], i.1.2.map c4.cells)]) (fun i => a.length - i.1.1) (⟨(0, a), by simp⟩) _ rfl ?_ ?_
 ·simp only [go_sem]
  all_goals first | omega | ((repeat' apply And.intro) <;> first | omega | rfl | skip)
 intro S0 hS0 i
 simp only [go_sem] at hS0
 obtain ⟨⟨i, L⟩, hi, hl, ht⟩ := i
 simp only at hi hl ht
 by_cases hil : (i : Int) < L.length
 ·have hgs : ∀ x, (L.set i x).getD i default = x := fun x => by rw [List.getD_eq_getElem?_getD, List.getElem?_set_self (by omega)]; rfl
  have hss : ∀ x y, (L.set i x).set i y = L.set i y := fun x y => List.set_set ..
  have hw0 : IntKind.i64.wrap (k + 3 * (i : Int) + 1) = k + 3 * (i : Int) + 1 := w64 (by omega) (by omega) (by omega)
  have hw1 : IntKind.i64.wrap (k + 3 * (i : Int) + 1 + 1) = k + 3 * (i : Int) + 2 := w64 (by omega) (by omega) (by omega)
  have hw2 : IntKind.i64.wrap (k + 3 * (i : Int) + 2 + 1) = k + 3 * (i : Int) + 3 := w64 (by omega) (by omega) (by omega)
  (try refine A2V ?_); simp only [go_sem, hS0, hgs, hss, hil, hw0, hw1, hw2]; (repeat' first | apply CJ.mk | intro hc); all_goals try ((repeat' first | apply And.intro | intro hs) <;> (try simp only [go_sem, Bool.and_eq_false_iff] at hs) <;> omega)
  (refine lpK_n2 (⟨(i + 1, L.set i (v9 (k + 3 * (i : Int)))), by simp only; omega, by simp [hl], by rw [← a1V a.length k (show i < a.length by omega)]; exact l9 (by rw [hl, l4]) ht (by rw [l4]; omega)⟩) _ rfl ?_; simp only [go_sem, hS0, hgs, hss, hil, hw0, hw1, hw2]; first | done | ((repeat' apply And.intro) <;> first | omega | (refine w64 ?_ ?_ ?_ <;> omega) | rfl | skip))
  ·exact (hc trivial).elim
 ·(try refine A2V ?_); simp only [go_sem, hS0, hil]; (repeat' first | apply CJ.mk | intro hc); all_goals try ((repeat' first | apply And.intro | intro hs) <;> (try simp only [go_sem, Bool.and_eq_false_iff] at hs) <;> omega)
  obtain rfl : i = a.length := by omega
  obtain rfl := l7 (by rw [hl, l4]) ht (by rw [l4]; omega)
  exact ⟨rfl, rfl⟩
noncomputable def t5 : CT := s6 (fun (x : (List c4) × Int) h => a3X x.1 x.2 h)
@[go_sem] theorem a8u (a : List c4) (k : Int) : t5 [(false, [.sl true [.s [], .i .i64 0, .s []] (a.map c4.cells)]), (false, [.i .i64 k])] = some (0 ≤ k ∧ k + 3 * (a.length : Nat) ≤ 4611686018427387904, [(0, (false, [.sl true [.s [], .i .i64 0, .s []] ((k6 a.length k).map c4.cells)]))], .one (false, [.i .i64 (k + 3 * (a.length : Nat))])) := i7 _ (by rintro ⟨_, _⟩ ⟨_, _⟩ h; simp at h; simp_all) (a, k)
theorem a2f : OkC Try.prog 55 t5 := i8 _
def z5 : ACode := q' ([z' 4 0]) (.seq (q' ([z' 5 0]) (.block 0 (.loop (.seq (q' ([m' 6 5, m' 7 0, n' 8 7, r' 9 6 8]) (.cond (.t 9) .skip (.exit 0))) (.seq (.block 1 (q' ([m' 12
 0, m' 13 5, m' 14 1, c' 15 56 [14], i' 16 3 12 13, f' 17 0 16, s' 1 17 15]) (q' ([m' 18 1, a' 19 18, m' 1 19]) (q' ([m' 20 0, m' 21 5, m' 22 1, i' 23 3 20 21,
 f' 24 1 23, f' 25 0 24, s' 1 25 22]) (q' ([m' 26 1, a' 27 26, m' 1 27]) (q' ([m' 28 0, m' 29 5, m' 30 1, c' 31 56 [30], i' 32 3 28 29, f' 33 1 32, f' 34 1 33,
 s' 1 34 31]) (g' [m' 35 1, a' 36 35, m' 1 36]))))))) (g' [m' 10 5, a' 11 10, m' 5 11])))))) (q' ([m' 37 1, m' 4 37]) .ret))
theorem a3o : cmp Try.prog Try.f21 = some z5 := by kernel_rfl
theorem a3Y (a : List c7) (k : Int) (hpre : 0 ≤ k ∧ k + 3 * (a.length : Nat) ≤ 4611686018427387904) : A0l Try.prog 21 [(false, [.sl true [.s [], .i .i64 0, .s []] (a.map c7.cells)]), (false, [.i .i64 k])] [(0, (false, [.sl true [.s [], .i .i64 0, .s []] ((t8 a.length k).map c7.cells)]))] (.one (false, [.i .i64 (k + 3 * (a.length : Nat))])) := by
 refine spec_of2 true false (some 0) Try.func21 a3o (rvs := [.t 4]) (hΓ := mkCtx_ok (deep := true) (l := [(56, [], k7)]) ⟨l6, trivial⟩) (h := ?_)
 intro hb hE
 simp only [go_sem] at hb
 simp only [z5, x']
 (try refine A2V ?_); simp only [go_sem]; (repeat' first | apply CJ.mk | intro hc); all_goals try ((repeat' first | apply And.intro | intro hs) <;> (try simp only [go_sem, Bool.and_eq_false_iff] at hs) <;> omega)
 refine aw_loop2 true [] [0] [] [] (fun i : {p : Nat × (List c7) // p.1 ≤ a.length ∧ p.2.length = a.length ∧ p.2.take p.1 = (t8 a.length k).take p.1} => [(5, slV (.i .i64 i.1.1)), (1, slV (.i .i64 (k + 3 * (i.1.1 : Int))))]) (fun i => []) (fun i => [(1, [.s [], .i .i64 0, .s []], i.1.2.map c7.cells)]) (fun i => a.length - i.1.1) (⟨(0, a), by simp⟩) _ rfl ?_ ?_
 ·simp only [go_sem]
  all_goals first | omega | ((repeat' apply And.intro) <;> first | omega | rfl | skip)
 intro S0 hS0 i
 simp only [go_sem] at hS0
 obtain ⟨⟨i, L⟩, hi, hl, ht⟩ := i
 simp only at hi hl ht
 by_cases hil : (i : Int) < L.length
 ·have hgs : ∀ x, (L.set i x).getD i default = x := fun x => by rw [List.getD_eq_getElem?_getD, List.getElem?_set_self (by omega)]; rfl
  have hss : ∀ x y, (L.set i x).set i y = L.set i y := fun x y => List.set_set ..
  have hw0 : IntKind.i64.wrap (k + 3 * (i : Int) + 1) = k + 3 * (i : Int) + 1 := w64 (by omega) (by omega) (by omega)
  have hw1 : IntKind.i64.wrap (k + 3 * (i : Int) + 1 + 1) = k + 3 * (i : Int) + 2 := w64 (by omega) (by omega) (by omega)
  have hw2 : IntKind.i64.wrap (k + 3 * (i : Int) + 2 + 1) = k + 3 * (i : Int) + 3 := w64 (by omega) (by omega) (by omega)
  (try refine A2V ?_); simp only [go_sem, hS0, hgs, hss, hil, hw0, hw1, hw2]; (repeat' first | apply CJ.mk | intro hc); all_goals try ((repeat' first | apply And.intro | intro hs) <;> (try simp only [go_sem, Bool.and_eq_false_iff] at hs) <;> omega)
  (refine lpK_n2 (⟨(i + 1, L.set i (a4a (k + 3 * (i : Int)))), by simp only; omega, by simp [hl], by rw [← a6e a.length k (show i < a.length by omega)]; exact l9 (by rw [hl, t9]) ht (by rw [t9]; omega)⟩) _ rfl ?_; simp only [go_sem, hS0, hgs, hss, hil, hw0, hw1, hw2]; first | done | ((repeat' apply And.intro) <;> first | omega | (refine w64 ?_ ?_ ?_ <;> omega) | rfl | skip))
  ·exact (hc trivial).elim
 ·(try refine A2V ?_); simp only [go_sem, hS0, hil]; (repeat' first | apply CJ.mk | intro hc); all_goals try ((repeat' first | apply And.intro | intro hs) <;> (try simp only [go_sem, Bool.and_eq_false_iff] at hs) <;> omega)
  obtain rfl : i = a.length := by omega
  obtain rfl := l7 (by rw [hl, t9]) ht (by rw [t9]; omega)
  exact ⟨rfl, rfl⟩
noncomputable def t6 : CT := s6 (fun (x : (List c7) × Int) h => a3Y x.1 x.2 h)
@[go_sem] theorem a8v (a : List c7) (k : Int) : t6 [(false, [.sl true [.s [], .i .i64 0, .s []] (a.map c7.cells)]), (false, [.i .i64 k])] = some (0 ≤ k ∧ k + 3 * (a.length : Nat) ≤ 4611686018427387904, [(0, (false, [.sl true [.s [], .i .i64 0, .s []] ((t8 a.length k).map c7.cells)]))], .one (false, [.i .i64 (k + 3 * (a.length : Nat))])) := i7 _ (by rintro ⟨_, _⟩ ⟨_, _⟩ h; simp at h; simp_all) (a, k)
theorem a2g : OkC Try.prog 21 t6 := i8 _
def a1i : ACode := q' ([o' 2 (.box 1 (.t 0)), z' 4 0]) (q' ([f' 5 0 2, l' 6 5, m' 7 1, c' 8 57 [6, 7], m' 1 8]) (q' ([m' 9 1, m' 4 9]) .ret))
theorem a4O : cmp Try.prog Try.f22 = some a1i := by kernel_rfl
theorem a5W (a : c9) (k : Int) (hpre : 0 ≤ k ∧ (k + 2 * (a.V.length : Nat)) ≤ 4611686018427387904) : A0l Try.prog 22 [(true, [.sl true [.i .i64 0, .s []] (a.V.map c6.cells)]), (false, [.i .i64 k])] [(0, (true, [.sl true [.i .i64 0, .s []] (((c9.mk (l8 a.V.length k)).V).map c6.cells)]))] (.one (false, [.i .i64 (k + 2 * (a.V.length : Nat))])) := by
 refine spec_of2 true false (some 0) Try.func22 a4O (rvs := [.t 4]) (hΓ := mkCtx_ok (deep := true) (l := [(57, [0], p7)]) ⟨a1R, trivial⟩) (h := ?_)
 intro hb hE
 simp only [go_sem] at hb
 simp only [a1i, x']
 (try refine A2V ?_); simp only [go_sem]; (repeat' first | apply CJ.mk | intro hc); all_goals try ((repeat' first | apply And.intro | intro hs) <;> (try simp only [go_sem, Bool.and_eq_false_iff] at hs) <;> omega)
 all_goals first | omega | trace_state
noncomputable def y3 : CT := s6 (fun (x : c9 × Int) h => a5W x.1 x.2 h)
@[go_sem] theorem a9u (x0 : List c6) (k : Int) : y3 [(true, [.sl true [.i .i64 0, .s []] (x0.map c6.cells)]), (false, [.i .i64 k])] = some (0 ≤ k ∧ (k + 2 * ((c9.mk x0).V.length : Nat)) ≤ 4611686018427387904, [(0, (true, [.sl true [.i .i64 0, .s []] (((c9.mk (l8 (c9.mk x0).V.length k)).V).map c6.cells)]))], .one (false, [.i .i64 (k + 2 * ((c9.mk x0).V.length : Nat))])) := i7 _ (by rintro ⟨⟨_⟩, _⟩ ⟨⟨_⟩, _⟩ h; simp at h; simp_all) ((c9.mk x0), k)
theorem a3h : OkC Try.prog 22 y3 := i8 _
def a1h : ACode := q' ([o' 2 (.box 1 (.t 0)), z' 4 0]) (q' ([f' 5 0 2, l' 6 5, m' 7 1, c' 8 55 [6, 7], m' 1 8]) (q' ([m' 9 1, m' 4 9]) .ret))
theorem a4N : cmp Try.prog Try.f20 = some a1h := by kernel_rfl
theorem a5V (a : c8) (k : Int) (hpre : 0 ≤ k ∧ (k + 3 * (a.Binds.length : Nat)) ≤ 4611686018427387904) : A0l Try.prog 20 [(true, [.sl true [.s [], .i .i64 0, .s []] (a.Binds.map c4.cells)]), (false, [.i .i64 k])] [(0, (true, [.sl true [.s [], .i .i64 0, .s []] (((c8.mk (k6 a.Binds.length k)).Binds).map c4.cells)]))] (.one (false, [.i .i64 (k + 3 * (a.Binds.length : Nat))])) := by
 refine spec_of2 true false (some 0) Try.func20 a4N (rvs := [.t 4]) (hΓ := mkCtx_ok (deep := true) (l := [(55, [0], t5)]) ⟨a2f, trivial⟩) (h := ?_)
 intro hb hE
 simp only [go_sem] at hb
 simp only [a1h, x']
 (try refine A2V ?_); simp only [go_sem]; (repeat' first | apply CJ.mk | intro hc); all_goals try ((repeat' first | apply And.intro | intro hs) <;> (try simp only [go_sem, Bool.and_eq_false_iff] at hs) <;> omega)
 all_goals first | omega | trace_state
noncomputable def x9 : CT := s6 (fun (x : c8 × Int) h => a5V x.1 x.2 h)
@[go_sem] theorem a9t (x0 : List c4) (k : Int) : x9 [(true, [.sl true [.s [], .i .i64 0, .s []] (x0.map c4.cells)]), (false, [.i .i64 k])] = some (0 ≤ k ∧ (k + 3 * ((c8.mk x0).Binds.length : Nat)) ≤ 4611686018427387904, [(0, (true, [.sl true [.s [], .i .i64 0, .s []] (((c8.mk (k6 (c8.mk x0).Binds.length k)).Binds).map c4.cells)]))], .one (false, [.i .i64 (k + 3 * ((c8.mk x0).Binds.length : Nat))])) := i7 _ (by rintro ⟨⟨_⟩, _⟩ ⟨⟨_⟩, _⟩ h; simp at h; simp_all) ((c8.mk x0), k)
theorem a3g : OkC Try.prog 20 x9 := i8 _
end Go.Aw
