/- Marked lists. No condition. -/
import Derived.Test.YthlbadfickhkfaaeaM1
import Derived.Test.YthlbadfickhkfaahBwtea
namespace Go.Aw
open Go.Proofs
attribute [local irreducible] aft blk lpK retK AW A0l
set_option linter.unusedVariables false
set_option linter.unusedSimpArgs false
set_option maxRecDepth 100000
def a2L (k : Int) : c6 := (c6.mk k (a3o (k + 1)))
def l7 (n : Nat) (k : Int) : List c6 := (List.range n).map fun i : Nat => a2L (k + 2 * (i : Int))
theorem s6 (n : Nat) (k : Int) : (l7 n k).length = n := by simp [l7]
theorem a4Z (n : Nat) (k : Int) {i : Nat} (h : i < n) : (l7 n k).getD i default = a2L (k + 2 * (i : Int)) := by
 rw [List.getD_eq_getElem?_getD, l7, List.getElem?_map, List.getElem?_range h]
 rfl
def v6 (k : Int) : c4 := (c4.mk (a3o k) (c6.mk (k + 1) (a3o (k + 2))))
def j9 (n : Nat) (k : Int) : List c4 := (List.range n).map fun i : Nat => v6 (k + 3 * (i : Int))
theorem l3 (n : Nat) (k : Int) : (j9 n k).length = n := by simp [j9]
theorem a1S (n : Nat) (k : Int) {i : Nat} (h : i < n) : (j9 n k).getD i default = v6 (k + 3 * (i : Int)) := by
 rw [List.getD_eq_getElem?_getD, j9, List.getElem?_map, List.getElem?_range h]
 rfl
def a3Y (k : Int) : c7 := (c7.mk (a3o k) (c6.mk (k + 1) (a3o (k + 2))))
def t6 (n : Nat) (k : Int) : List c7 := (List.range n).map fun i : Nat => a3Y (k + 3 * (i : Int))
theorem t7 (n : Nat) (k : Int) : (t6 n k).length = n := by simp [t6]
theorem a5X (n : Nat) (k : Int) {i : Nat} (h : i < n) : (t6 n k).getD i default = a3Y (k + 3 * (i : Int)) := by
 rw [List.getD_eq_getElem?_getD, t6, List.getElem?_map, List.getElem?_range h]
 rfl
def v9 : ACode := q' ([z' 4 0]) (.seq (q' ([z' 5 0]) (.block 0 (.loop (.seq (q' ([m' 6 5, m' 7 0, n' 8 7, r' 9 6 8]) (.cond (.t 9) .skip (.exit 0))) (.seq (.block 1 (q' ([m' 12
 0, m' 13 5, m' 14 1, i' 15 2 12 13, f' 16 0 15, s' 1 16 14]) (q' ([m' 17 1, a' 18 17, m' 1 18]) (q' ([m' 19 0, m' 20 5, m' 21 1, c' 22 56 [21], i' 23 2 19 20,
 f' 24 1 23, s' 1 24 22]) (g' [m' 25 1, a' 26 25, m' 1 26]))))) (g' [m' 10 5, a' 11 10, m' 5 11])))))) (q' ([m' 27 1, m' 4 27]) .ret))
theorem a2K : cmp Try.prog Try.f57 = some v9 := by kernel_rfl
theorem a3n (a : List c6) (k : Int) (hpre : 0 ≤ k ∧ k + 2 * (a.length : Nat) ≤ 4611686018427387904) : A0l Try.prog 57 [(false, [.sl true [.i .i64 0, .s []] (a.map c6.cells)]), (false, [.i .i64 k])] [(0, (false, [.sl true [.i .i64 0, .s []] ((l7 a.length k).map c6.cells)]))] (.one (false, [.i .i64 (k + 2 * (a.length : Nat))])) := by
 refine spec_of2 true false (some 0) Try.func57 a2K (rvs := [.t 4]) (hΓ := mkCtx_ok (deep := true) (l := [(56, [], k6)]) ⟨l5, trivial⟩) (h := ?_)
 intro hb hE
 simp only [go_sem] at hb
 simp only [v9, x']
 (try refine A2V ?_); simp only [go_sem]; (repeat' first | apply CJ.mk | intro hc); all_goals try ((repeat' first | apply And.intro | intro hs) <;> (try simp only [go_sem, Bool.and_eq_false_iff] at hs) <;> omega)
 refine aw_loop2 true [] [0] [] [] (fun i : {p : Nat × (List c6) // p.1 ≤ a.length ∧ p.2.length = a.length ∧ p.2.take p.1 = (l7 a.length k).take p.1} => [(5, slV (.i .i64 i.1.1)), (1, slV (.i .i64 (k + 2 * (i.1.1 : Int))))]) (fun i => []) (fun i => [(1, [.i .i64 0, .s []], i.1.2.map c6.cells)]) (fun i => a.length - i.1.1) (⟨(0, a), by simp⟩) _ rfl ?_ ?_
 ·simp only [go_sem]
  all_goals first | omega | ((repeat' apply And.intro) <;> first | omega | rfl | skip)
 intro S0 hS0 i
 simp only [go_sem] at hS0
 obtain ⟨⟨i, L⟩, hi, hl, ht⟩ := i
 simp only at hi hl ht
 by_cases hil : (i : Int) < L.length
 ·have hgs : ∀ x, (L.set i x).getD i default = x := fun x => by rw [List.getD_eq_getElem?_getD, List.getElem?_set_self (by omega)]; rfl
  have hss : ∀ x y, (L.set i x).set i y = L.set i y := fun x y => List.set_set ..
  have hw0 : IntKind.i64.wrap (k + 2 * (i : Int) + 1) = k + 2 * (i : Int) + 1 := w64 (by omega) (by omega) (by omega)
  have hw1 : IntKind.i64.wrap (k + 2 * (i : Int) + 1 + 1) = k + 2 * (i : Int) + 2 := w64 (by omega) (by omega) (by omega)
  (try refine A2V ?_); simp only [go_sem, hS0, hgs, hss, hil, hw0, hw1]; (repeat' first | apply CJ.mk | intro hc); all_goals try ((repeat' first | apply And.intro | intro hs) <;> (try simp only [go_sem, Bool.and_eq_false_iff] at hs) <;> omega)
  (refine lpK_n2 (⟨(i + 1, L.set i (a2L (k + 2 * (i : Int)))), by simp only; omega, by simp [hl], by rw [← a4Z a.length k (show i < a.length by omega)]; exact l8 (by rw [hl, s6]) ht (by rw [s6]; omega)⟩) _ rfl ?_; simp only [go_sem, hS0, hgs, hss, hil, hw0, hw1]; first | done | ((repeat' apply And.intro) <;> first | omega | (refine w64 ?_ ?_ ?_ <;> omega) | rfl | skip))
  ·exact (hc trivial).elim
 ·(try refine A2V ?_); simp only [go_sem, hS0, hil]; (repeat' first | apply CJ.mk | intro hc); all_goals try ((repeat' first | apply And.intro | intro hs) <;> (try simp only [go_sem, Bool.and_eq_false_iff] at hs) <;> omega)
  obtain rfl : i = a.length := by omega
  obtain rfl := l6 (by rw [hl, s6]) ht (by rw [s6]; omega)
  exact ⟨rfl, rfl⟩
noncomputable def p6 : CT := q0 (fun (x : (List c6) × Int) h => a3n x.1 x.2 h)
@[go_sem] theorem a7T (a : List c6) (k : Int) : p6 [(false, [.sl true [.i .i64 0, .s []] (a.map c6.cells)]), (false, [.i .i64 k])] = some (0 ≤ k ∧ k + 2 * (a.length : Nat) ≤ 4611686018427387904, [(0, (false, [.sl true [.i .i64 0, .s []] ((l7 a.length k).map c6.cells)]))], .one (false, [.i .i64 (k + 2 * (a.length : Nat))])) := i7 _ (by rintro ⟨_, _⟩ ⟨_, _⟩ h; simp at h; simp_all) (a, k)
theorem a1M : OkC Try.prog 57 p6 := i8 _
def y8 : ACode := q' ([z' 4 0]) (.seq (q' ([z' 5 0]) (.block 0 (.loop (.seq (q' ([m' 6 5, m' 7 0, n' 8 7, r' 9 6 8]) (.cond (.t 9) .skip (.exit 0))) (.seq (.block 1 (q' ([m' 12
 0, m' 13 5, m' 14 1, c' 15 56 [14], i' 16 3 12 13, f' 17 0 16, s' 1 17 15]) (q' ([m' 18 1, a' 19 18, m' 1 19]) (q' ([m' 20 0, m' 21 5, m' 22 1, i' 23 3 20 21,
 f' 24 1 23, f' 25 0 24, s' 1 25 22]) (q' ([m' 26 1, a' 27 26, m' 1 27]) (q' ([m' 28 0, m' 29 5, m' 30 1, c' 31 56 [30], i' 32 3 28 29, f' 33 1 32, f' 34 1 33,
 s' 1 34 31]) (g' [m' 35 1, a' 36 35, m' 1 36]))))))) (g' [m' 10 5, a' 11 10, m' 5 11])))))) (q' ([m' 37 1, m' 4 37]) .ret))
theorem a3j : cmp Try.prog Try.f55 = some y8 := by kernel_rfl
theorem a3V (a : List c4) (k : Int) (hpre : 0 ≤ k ∧ k + 3 * (a.length : Nat) ≤ 4611686018427387904) : A0l Try.prog 55 [(false, [.sl true [.s [], .i .i64 0, .s []] (a.map c4.cells)]), (false, [.i .i64 k])] [(0, (false, [.sl true [.s [], .i .i64 0, .s []] ((j9 a.length k).map c4.cells)]))] (.one (false, [.i .i64 (k + 3 * (a.length : Nat))])) := by
 refine spec_of2 true false (some 0) Try.func55 a3j (rvs := [.t 4]) (hΓ := mkCtx_ok (deep := true) (l := [(56, [], k6)]) ⟨l5, trivial⟩) (h := ?_)
 intro hb hE
 simp only [go_sem] at hb
 simp only [y8, x']
 (try refine A2V ?_); simp only [go_sem]; (repeat' first | apply CJ.mk | intro hc); all_goals try ((repeat' first | apply And.intro | intro hs) <;> (try simp only [go_sem, Bool.and_eq_false_iff] at hs) <;> omega)
 refine aw_loop2 true [] [0] [] [] (fun i : {p : Nat × (List c4) // p.1 ≤ a.length ∧ p.2.length = a.length ∧ p.2.take p.1 = (j9 a.length k).take p.1} => [(5, slV (.i .i64 i.1.1)), (1, slV (.i .i64 (k + 3 * (i.1.1 : Int))))]) (fun i => []) (fun i => [(1, [.s [], .i .i64 0, .s []], i.1.2.map c4.cells)]) (fun i => a.length - i.1.1) (⟨(0, a), by simp⟩) _ rfl ?_ ?_
 ·simp only [go_sem]
  all_goals first | omega | ((repeat' apply And.intro) <;> first | omega | rfl | skip)
 intro S0 hS0 i
 simp only [go_sem] at hS0
 obtain ⟨⟨i, L⟩, hi, hl, ht⟩ := i
 simp only at hi hl ht
 by_cases hil : (i : Int) < L.length
 ·have hgs : ∀ x, (L.set i x).getD i default = x := fun x => by rw [List.getD_eq_getElem?_getD, List.getElem?_set_self (by omega)]; rfl
  have hss : ∀ x y, (L.set i x).set i y = L.set i y := fun x y => List.set_set ..
  have hw0 : IntKind.i64.wrap (k + 3 * (i : Int) + 1) = k + 3 * (i : Int) + 1 := w64 (by omega) (by omega) (by omega)
  have hw1 : IntKind.i64.wrap (k + 3 * (i : Int) + 1 + 1) = k + 3 * (i : Int) + 2 := w64 (by omega) (by omega) (by omega)
  have hw2 : IntKind.i64.wrap (k + 3 * (i : Int) + 2 + 1) = k + 3 * (i : Int) + 3 := w64 (by omega) (by omega) (by omega)
  (try refine A2V ?_); simp only [go_sem, hS0, hgs, hss, hil, hw0, hw1, hw2]; (repeat' first | apply CJ.mk | intro hc); all_goals try ((repeat' first | apply And.intro | intro hs) <;> (try simp only [go_sem, Bool.and_eq_false_iff] at hs) <;> omega)
  (refine lpK_n2 (⟨(i + 1, L.set i (v6 (k + 3 * (i : Int)))), by simp only; omega, by simp [hl], by rw [← a1S a.length k (show i < a.length by omega)]; exact l8 (by rw [hl, l3]) ht (by rw [l3]; omega)⟩) _ rfl ?_; simp only [go_sem, hS0, hgs, hss, hil, hw0, hw1, hw2]; first | done | ((repeat' apply And.intro) <;> first | omega | (refine w64 ?_ ?_ ?_ <;> omega) | rfl | skip))
  ·exact (hc trivial).elim
 ·(try refine A2V ?_); simp only [go_sem, hS0, hil]; (repeat' first | apply CJ.mk | intro hc); all_goals try ((repeat' first | apply And.intro | intro hs) <;> (try simp only [go_sem, Bool.and_eq_false_iff] at hs) <;> omega)
  obtain rfl : i = a.length := by omega
  obtain rfl := l6 (by rw [hl, l3]) ht (by rw [l3]; omega)
  exact ⟨rfl, rfl⟩
noncomputable def s8 : CT := q0 (fun (x : (List c4) × Int) h => a3V x.1 x.2 h)
@[go_sem] theorem a8l (a : List c4) (k : Int) : s8 [(false, [.sl true [.s [], .i .i64 0, .s []] (a.map c4.cells)]), (false, [.i .i64 k])] = some (0 ≤ k ∧ k + 3 * (a.length : Nat) ≤ 4611686018427387904, [(0, (false, [.sl true [.s [], .i .i64 0, .s []] ((j9 a.length k).map c4.cells)]))], .one (false, [.i .i64 (k + 3 * (a.length : Nat))])) := i7 _ (by rintro ⟨_, _⟩ ⟨_, _⟩ h; simp at h; simp_all) (a, k)
theorem a2d : OkC Try.prog 55 s8 := i8 _
def y9 : ACode := q' ([z' 4 0]) (.seq (q' ([z' 5 0]) (.block 0 (.loop (.seq (q' ([m' 6 5, m' 7 0, n' 8 7, r' 9 6 8]) (.cond (.t 9) .skip (.exit 0))) (.seq (.block 1 (q' ([m' 12
 0, m' 13 5, m' 14 1, c' 15 56 [14], i' 16 3 12 13, f' 17 0 16, s' 1 17 15]) (q' ([m' 18 1, a' 19 18, m' 1 19]) (q' ([m' 20 0, m' 21 5, m' 22 1, i' 23 3 20 21,
 f' 24 1 23, f' 25 0 24, s' 1 25 22]) (q' ([m' 26 1, a' 27 26, m' 1 27]) (q' ([m' 28 0, m' 29 5, m' 30 1, c' 31 56 [30], i' 32 3 28 29, f' 33 1 32, f' 34 1 33,
 s' 1 34 31]) (g' [m' 35 1, a' 36 35, m' 1 36]))))))) (g' [m' 10 5, a' 11 10, m' 5 11])))))) (q' ([m' 37 1, m' 4 37]) .ret))
theorem a3k : cmp Try.prog Try.f21 = some y9 := by kernel_rfl
theorem a3W (a : List c7) (k : Int) (hpre : 0 ≤ k ∧ k + 3 * (a.length : Nat) ≤ 4611686018427387904) : A0l Try.prog 21 [(false, [.sl true [.s [], .i .i64 0, .s []] (a.map c7.cells)]), (false, [.i .i64 k])] [(0, (false, [.sl true [.s [], .i .i64 0, .s []] ((t6 a.length k).map c7.cells)]))] (.one (false, [.i .i64 (k + 3 * (a.length : Nat))])) := by
 refine spec_of2 true false (some 0) Try.func21 a3k (rvs := [.t 4]) (hΓ := mkCtx_ok (deep := true) (l := [(56, [], k6)]) ⟨l5, trivial⟩) (h := ?_)
 intro hb hE
 simp only [go_sem] at hb
 simp only [y9, x']
 (try refine A2V ?_); simp only [go_sem]; (repeat' first | apply CJ.mk | intro hc); all_goals try ((repeat' first | apply And.intro | intro hs) <;> (try simp only [go_sem, Bool.and_eq_false_iff] at hs) <;> omega)
 refine aw_loop2 true [] [0] [] [] (fun i : {p : Nat × (List c7) // p.1 ≤ a.length ∧ p.2.length = a.length ∧ p.2.take p.1 = (t6 a.length k).take p.1} => [(5, slV (.i .i64 i.1.1)), (1, slV (.i .i64 (k + 3 * (i.1.1 : Int))))]) (fun i => []) (fun i => [(1, [.s [], .i .i64 0, .s []], i.1.2.map c7.cells)]) (fun i => a.length - i.1.1) (⟨(0, a), by simp⟩) _ rfl ?_ ?_
 ·simp only [go_sem]
  all_goals first | omega | ((repeat' apply And.intro) <;> first | omega | rfl | skip)
 intro S0 hS0 i
 simp only [go_sem] at hS0
 obtain ⟨⟨i, L⟩, hi, hl, ht⟩ := i
 simp only at hi hl ht
 by_cases hil : (i : Int) < L.length
 ·have hgs : ∀ x, (L.set i x).getD i default = x := fun x => by rw [List.getD_eq_getElem?_getD, List.getElem?_set_self (by omega)]; rfl
  have hss : ∀ x y, (L.set i x).set i y = L.set i y := fun x y => List.set_set ..
  have hw0 : IntKind.i64.wrap (k + 3 * (i : Int) + 1) = k + 3 * (i : Int) + 1 := w64 (by omega) (by omega) (by omega)
  have hw1 : IntKind.i64.wrap (k + 3 * (i : Int) + 1 + 1) = k + 3 * (i : Int) + 2 := w64 (by omega) (by omega) (by omega)
  have hw2 : IntKind.i64.wrap (k + 3 * (i : Int) + 2 + 1) = k + 3 * (i : Int) + 3 := w64 (by omega) (by omega) (by omega)
  (try refine A2V ?_); simp only [go_sem, hS0, hgs, hss, hil, hw0, hw1, hw2]; (repeat' first | apply CJ.mk | intro hc); all_goals try ((repeat' first | apply And.intro | intro hs) <;> (try simp only [go_sem, Bool.and_eq_false_iff] at hs) <;> omega)
  (refine lpK_n2 (⟨(i + 1, L.set i (a3Y (k + 3 * (i : Int)))), by simp only; omega, by simp [hl], by rw [← a5X a.length k (show i < a.length by omega)]; exact l8 (by rw [hl, t7]) ht (by rw [t7]; omega)⟩) _ rfl ?_; simp only [go_sem, hS0, hgs, hss, hil, hw0, hw1, hw2]; first | done | ((repeat' apply And.intro) <;> first | omega | (refine w64 ?_ ?_ ?_ <;> omega) | rfl | skip))
  ·exact (hc trivial).elim
 ·(try refine A2V ?_); simp only [go_sem, hS0, hil]; (repeat' first | apply CJ.mk | intro hc); all_goals try ((repeat' first | apply And.intro | intro hs) <;> (try simp only [go_sem, Bool.and_eq_false_iff] at hs) <;> omega)
  obtain rfl : i = a.length := by omega
  obtain rfl := l6 (by rw [hl, t7]) ht (by rw [t7]; omega)
  exact ⟨rfl, rfl⟩
noncomputable def s9 : CT := q0 (fun (x : (List c7) × Int) h => a3W x.1 x.2 h)
@[go_sem] theorem a8m (a : List c7) (k : Int) : s9 [(false, [.sl true [.s [], .i .i64 0, .s []] (a.map c7.cells)]), (false, [.i .i64 k])] = some (0 ≤ k ∧ k + 3 * (a.length : Nat) ≤ 4611686018427387904, [(0, (false, [.sl true [.s [], .i .i64 0, .s []] ((t6 a.length k).map c7.cells)]))], .one (false, [.i .i64 (k + 3 * (a.length : Nat))])) := i7 _ (by rintro ⟨_, _⟩ ⟨_, _⟩ h; simp at h; simp_all) (a, k)
theorem a2e : OkC Try.prog 21 s9 := i8 _
def a1e : ACode := q' ([o' 2 (.box 1 (.t 0)), z' 4 0]) (q' ([f' 5 0 2, l' 6 5, m' 7 1, c' 8 57 [6, 7], m' 1 8]) (q' ([m' 9 1, m' 4 9]) .ret))
theorem a4I : cmp Try.prog Try.f22 = some a1e := by kernel_rfl
theorem a5P (a : c9) (k : Int) (hpre : 0 ≤ k ∧ (k + 2 * (a.V.length : Nat)) ≤ 4611686018427387904) : A0l Try.prog 22 [(true, [.sl true [.i .i64 0, .s []] (a.V.map c6.cells)]), (false, [.i .i64 k])] [(0, (true, [.sl true [.i .i64 0, .s []] (((c9.mk (l7 a.V.length k)).V).map c6.cells)]))] (.one (false, [.i .i64 (k + 2 * (a.V.length : Nat))])) := by
 refine spec_of2 true false (some 0) Try.func22 a4I (rvs := [.t 4]) (hΓ := mkCtx_ok (deep := true) (l := [(57, [0], p6)]) ⟨a1M, trivial⟩) (h := ?_)
 intro hb hE
 simp only [go_sem] at hb
 simp only [a1e, x']
 (try refine A2V ?_); simp only [go_sem]; (repeat' first | apply CJ.mk | intro hc); all_goals try ((repeat' first | apply And.intro | intro hs) <;> (try simp only [go_sem, Bool.and_eq_false_iff] at hs) <;> omega)
 all_goals first | omega | trace_state
noncomputable def x7 : CT := q0 (fun (x : c9 × Int) h => a5P x.1 x.2 h)
@[go_sem] theorem a9l (x0 : List c6) (k : Int) : x7 [(true, [.sl true [.i .i64 0, .s []] (x0.map c6.cells)]), (false, [.i .i64 k])] = some (0 ≤ k ∧ (k + 2 * ((c9.mk x0).V.length : Nat)) ≤ 4611686018427387904, [(0, (true, [.sl true [.i .i64 0, .s []] (((c9.mk (l7 (c9.mk x0).V.length k)).V).map c6.cells)]))], .one (false, [.i .i64 (k + 2 * ((c9.mk x0).V.length : Nat))])) := i7 _ (by rintro ⟨⟨_⟩, _⟩ ⟨⟨_⟩, _⟩ h; simp at h; simp_all) ((c9.mk x0), k)
theorem a3d : OkC Try.prog 22 x7 := i8 _
def a1d : ACode := q' ([o' 2 (.box 1 (.t 0)), z' 4 0]) (q' ([f' 5 0 2, l' 6 5, m' 7 1, c' 8 55 [6, 7], m' 1 8]) (q' ([m' 9 1, m' 4 9]) .ret))
theorem a4H : cmp Try.prog Try.f20 = some a1d := by kernel_rfl
theorem a5O (a : c8) (k : Int) (hpre : 0 ≤ k ∧ (k + 3 * (a.Binds.length : Nat)) ≤ 4611686018427387904) : A0l Try.prog 20 [(true, [.sl true [.s [], .i .i64 0, .s []] (a.Binds.map c4.cells)]), (false, [.i .i64 k])] [(0, (true, [.sl true [.s [], .i .i64 0, .s []] (((c8.mk (j9 a.Binds.length k)).Binds).map c4.cells)]))] (.one (false, [.i .i64 (k + 3 * (a.Binds.length : Nat))])) := by
 refine spec_of2 true false (some 0) Try.func20 a4H (rvs := [.t 4]) (hΓ := mkCtx_ok (deep := true) (l := [(55, [0], s8)]) ⟨a2d, trivial⟩) (h := ?_)
 intro hb hE
 simp only [go_sem] at hb
 simp only [a1d, x']
 (try refine A2V ?_); simp only [go_sem]; (repeat' first | apply CJ.mk | intro hc); all_goals try ((repeat' first | apply And.intro | intro hs) <;> (try simp only [go_sem, Bool.and_eq_false_iff] at hs) <;> omega)
 all_goals first | omega | trace_state
noncomputable def x6 : CT := q0 (fun (x : c8 × Int) h => a5O x.1 x.2 h)
@[go_sem] theorem a9k (x0 : List c4) (k : Int) : x6 [(true, [.sl true [.s [], .i .i64 0, .s []] (x0.map c4.cells)]), (false, [.i .i64 k])] = some (0 ≤ k ∧ (k + 3 * ((c8.mk x0).Binds.length : Nat)) ≤ 4611686018427387904, [(0, (true, [.sl true [.s [], .i .i64 0, .s []] (((c8.mk (j9 (c8.mk x0).Binds.length k)).Binds).map c4.cells)]))], .one (false, [.i .i64 (k + 3 * ((c8.mk x0).Binds.length : Nat))])) := i7 _ (by rintro ⟨⟨_⟩, _⟩ ⟨⟨_⟩, _⟩ h; simp at h; simp_all) ((c8.mk x0), k)
theorem a3c : OkC Try.prog 20 x6 := i8 _
end Go.Aw
