/- Marked programs, states. No condition. -/
import Derived.Test.YthlbadfickhkfaaGreatzfM4
namespace Go.Aw
open Go.Proofs
attribute [local irreducible] aft blk lpK retK AW A0l
set_option linter.unusedVariables false
set_option linter.unusedSimpArgs false
set_option maxRecDepth 100000
set_option maxHeartbeats 4000000
def a9M (k : Int) : c7 := (c7.mk k (a2b (k + 1)) (k + 2))
def p7 (n : Nat) (k : Int) : List c7 := (List.range n).map fun i : Nat => a9M (k + 3 * (i : Int))
theorem a0L (n : Nat) (k : Int) : (p7 n k).length = n := by simp [p7]
theorem b2H (n : Nat) (k : Int) {i : Nat} (h : i < n) : (p7 n k).getD i default = a9M (k + 3 * (i : Int)) := by
 rw [List.getD_eq_getElem?_getD, p7, List.getElem?_map, List.getElem?_range h]
 rfl
def j4 (x : c6) : Nat := 2 + 3 * x.Head.Args.length + i5 j3 x.Body
def p6 (x : c6) (k : Int) : c6 := c6.mk k (d4.mk (a2b (k + 1)) (u1 x.Head.Args.length (k + 2))) (mkL a0S j3 x.Body ((k + 2) + 3 * (x.Head.Args.length : Nat)))
def a2h : ACode := q' ([z' 4 0]) (.seq (q' ([z' 5 0]) (.block 0 (.loop (.seq (q' ([m' 6 5, m' 7 0, n' 8 7, r' 9 6 8]) (.cond (.t 9) .skip (.exit 0))) (.seq (.block 1 (q' ([m' 12
 0, m' 13 5, m' 14 1, i' 15 3 12 13, f' 16 0 15, s' 1 16 14]) (q' ([m' 17 1, a' 18 17, m' 1 18]) (q' ([m' 19 0, m' 20 5, m' 21 1, c' 22 85 [21], i' 23 3 19 20,
 f' 24 1 23, s' 1 24 22]) (q' ([m' 25 1, a' 26 25, m' 1 26]) (q' ([m' 27 0, m' 28 5, m' 29 1, i' 30 3 27 28, f' 31 2 30, s' 1 31 29]) (g' [m' 32 1, a' 33 32,
 m' 1 33]))))))) (g' [m' 10 5, a' 11 10, m' 5 11])))))) (q' ([m' 34 1, m' 4 34]) .ret))
theorem a8h : cmp Tryz.prog Tryz.f71 = some a2h := by kernel_rfl
theorem a9A (a : List c7) (k : Int) (hpre : 0 ≤ k ∧ k + 3 * (a.length : Nat) ≤ 4611686018427387904) : A0l Tryz.prog 71 [(false, [.sl true [.i .i64 0, .s [], .i .i64 0] (a.map c7.cells)]), (false, [.i .i64 k])] [(0, (false, [.sl true [.i .i64 0, .s [], .i .i64 0] ((p7 a.length k).map c7.cells)]))] (.one (false, [.i .i64 (k + 3 * (a.length : Nat))])) := by
 refine spec_of2 true false (some 0) Tryz.func71 a8h (rvs := [.t 4]) (hΓ := mkCtx_ok (deep := true) (l := [(85, [], k8)]) ⟨j9, trivial⟩) (h := ?_)
 intro hb hE
 simp only [go_sem] at hb
 simp only [a2h, x']
 (try refine A2V ?_); simp only [go_sem]; (repeat' first | apply CJ.mk | intro hc); all_goals try ((repeat' first | apply And.intro | intro hs) <;> (try simp only [go_sem, Bool.and_eq_false_iff] at hs) <;> omega)
 refine aw_loop2 true [] [0] [] [] (fun i : {p : Nat × (List c7) // p.1 ≤ a.length ∧ p.2.length = a.length ∧ p.2.take p.1 = (p7 a.length k).take p.1} => [(5, slV (.i .i64 i.1.1)), (1, slV (.i .i64 (k + 3 * (i.1.1 : Int))))]) (fun i => []) (fun i => [(1, [.i .i64 0, .s [], .i .i64 0], i.1.2.map c7.cells)]) (fun i => a.length - i.1.1) (⟨(0, a), by simp⟩) _ rfl ?_ ?_
 ·simp only [go_sem]
  all_goals first | omega | ((repeat' apply And.intro) <;> first | omega | rfl | skip)
 intro S0 hS0 i
 simp only [go_sem] at hS0
 obtain ⟨⟨i, L⟩, hi, hl, ht⟩ := i
 simp only at hi hl ht
 by_cases hil : (i : Int) < L.length
 ·have hgs : ∀ x, (L.set i x).getD i default = x := fun x => by rw [List.getD_eq_getElem?_getD, List.getElem?_set_self (by omega)]; rfl
  have hss : ∀ x y, (L.set i x).set i y = L.set i y := fun x y => List.set_set ..
  have hw0 : IntKind.i64.wrap (k + 3 * (i : Int) + 1) = k + 3 * (i : Int) + 1 := w64 (by omega) (by omega) (by omega)
  have hw1 : IntKind.i64.wrap (k + 3 * (i : Int) + 1 + 1) = k + 3 * (i : Int) + 2 := w64 (by omega) (by omega) (by omega)
  have hw2 : IntKind.i64.wrap (k + 3 * (i : Int) + 2 + 1) = k + 3 * (i : Int) + 3 := w64 (by omega) (by omega) (by omega)
  (try refine A2V ?_); simp only [go_sem, hS0, hgs, hss, hil, hw0, hw1, hw2]; (repeat' first | apply CJ.mk | intro hc); all_goals try ((repeat' first | apply And.intro | intro hs) <;> (try simp only [go_sem, Bool.and_eq_false_iff] at hs) <;> omega)
  (refine lpK_n2 (⟨(i + 1, L.set i (a9M (k + 3 * (i : Int)))), by simp only; omega, by simp [hl], by rw [← b2H a.length k (show i < a.length by omega)]; exact n8 (by rw [hl, a0L]) ht (by rw [a0L]; omega)⟩) _ rfl ?_; simp only [go_sem, hS0, hgs, hss, hil, hw0, hw1, hw2]; first | done | ((repeat' apply And.intro) <;> first | omega | (refine w64 ?_ ?_ ?_ <;> omega) | rfl | skip))
  ·exact (hc trivial).elim
 ·(try refine A2V ?_); simp only [go_sem, hS0, hil]; (repeat' first | apply CJ.mk | intro hc); all_goals try ((repeat' first | apply And.intro | intro hs) <;> (try simp only [go_sem, Bool.and_eq_false_iff] at hs) <;> omega)
  obtain rfl : i = a.length := by omega
  obtain rfl := l4 (by rw [hl, a0L]) ht (by rw [a0L]; omega)
  exact ⟨rfl, rfl⟩
noncomputable def a0j : CT := o6 (fun (x : (List c7) × Int) h => a9A x.1 x.2 h)
@[go_sem] theorem b5Q (a : List c7) (k : Int) : a0j [(false, [.sl true [.i .i64 0, .s [], .i .i64 0] (a.map c7.cells)]), (false, [.i .i64 k])] = some (0 ≤ k ∧ k + 3 * (a.length : Nat) ≤ 4611686018427387904, [(0, (false, [.sl true [.i .i64 0, .s [], .i .i64 0] ((p7 a.length k).map c7.cells)]))], .one (false, [.i .i64 (k + 3 * (a.length : Nat))])) := i3 _ (by rintro ⟨_, _⟩ ⟨_, _⟩ h; simp at h; simp_all) (a, k)
theorem a6k : OkC Tryz.prog 71 a0j := i4 _
def a2i : ACode := q' ([z' 4 0]) (.seq (q' ([z' 5 0]) (.block 0 (.loop (.seq (q' ([m' 6 5, m' 7 0, n' 8 7, r' 9 6 8]) (.cond (.t 9) .skip (.exit 0))) (.seq (.block 1 (q' ([m' 12
 0, m' 13 5, m' 14 1, i' 15 4 12 13, f' 16 0 15, s' 1 16 14]) (q' ([m' 17 1, a' 18 17, m' 1 18]) (q' ([m' 19 0, m' 20 5, m' 21 1, c' 22 85 [21], i' 23 4 19 20,
 f' 24 1 23, f' 25 0 24, s' 1 25 22]) (q' ([m' 26 1, a' 27 26, m' 1 27]) (q' ([m' 28 0, m' 29 5, i' 30 4 28 29, f' 31 1 30, f' 32 1 31, l' 33 32, m' 34 1, c'
 35 145 [33, 34], m' 1 35]) (g' [m' 36 0, m' 37 5, i' 38 4 36 37, f' 39 3 38, l' 40 39, m' 41 1, c' 42 125 [40, 41], m' 1 42]))))))) (g' [m' 10 5, a' 11 10, m'
 5 11])))))) (q' ([m' 43 1, m' 4 43]) .ret))
theorem a8i : cmp Tryz.prog Tryz.f72 = some a2i := by kernel_rfl
theorem a9B (a : List c6) (k : Int) (hpre : 0 ≤ k ∧ k + (i5 j4 a : Nat) ≤ 4611686018427387904) : A0l Tryz.prog 72 [(false, [.sl true [.i .i64 0, .s [], .sl true [.s [], .i .i64 0, .s []] [], .sl true [.i .i64 0, .s [], .sl true [.s [], .i .i64 0, .s []] [], .i .i64 0, .s [], .i .i64 0, .s [], .s [], .i .i64 0, .s []] []] (a.map (c6.cells true true))]), (false, [.i .i64 k])] [(0, (false, [.sl true [.i .i64 0, .s [], .sl true [.s [], .i .i64 0, .s []] [], .sl true [.i .i64 0, .s [], .sl true [.s [], .i .i64 0, .s []] [], .i .i64 0, .s [], .i .i64 0, .s [], .s [], .i .i64 0, .s []] []] ((mkL p6 j4 a k).map (c6.cells true true))]))] (.one (false, [.i .i64 (k + (i5 j4 a : Nat))])) := by
 refine spec_of2 true false (some 0) Tryz.func72 a8i (rvs := [.t 4]) (hΓ := mkCtx_ok (deep := true) (l := [(85, [], k8), (145, [0], t7), (125, [0], a0Z)]) ⟨j9, a1k, a6X, trivial⟩) (h := ?_)
 intro hb hE
 simp only [go_sem] at hb
 simp only [a2i, x']
 (try refine A2V ?_); simp only [go_sem]; (repeat' first | apply CJ.mk | intro hc); all_goals try ((repeat' first | apply And.intro | intro hs) <;> (try simp only [go_sem, Bool.and_eq_false_iff] at hs) <;> omega)
 refine aw_loop2 true [] [0] [] [] (fun i : {p : Nat × List c6 // p.1 ≤ a.length ∧ p.2 = mkL p6 j4 (a.take p.1) k ++ a.drop p.1} => [(5, slV (.i .i64 i.1.1)), (1, slV (.i .i64 (k + (i5 j4 (a.take i.1.1) : Nat))))]) (fun i => []) (fun i => [(1, [.i .i64 0, .s [], .sl true [.s [], .i .i64 0, .s []] [], .sl true [.i .i64 0, .s [], .sl true [.s [], .i .i64 0, .s []] [], .i .i64 0, .s [], .i .i64 0, .s [], .s [], .i .i64 0, .s []] []], i.1.2.map (c6.cells true true))]) (fun i => a.length - i.1.1) (⟨(0, a), by simp [mkL]⟩) _ rfl ?_ ?_
 ·simp only [go_sem]
  all_goals first | omega | ((repeat' apply And.intro) <;> first | omega | rfl | skip)
 intro S0 hS0 i
 simp only [go_sem] at hS0
 obtain ⟨⟨i, L⟩, hi, hL⟩ := i
 simp only at hi hL
 have hl : L.length = a.length := by rw [hL]; exact b7N p6 j4 a k i
 by_cases hil : (i : Int) < L.length
 ·have hgs : ∀ x, (L.set i x).getD i default = x := fun x => by rw [List.getD_eq_getElem?_getD, List.getElem?_set_self (by omega)]; rfl
  have hss : ∀ x y, (L.set i x).set i y = L.set i y := fun x y => List.set_set ..
  have hg2 : ∀ x, ((L.map (c6.cells true true)).set i x).getD i [.i .i64 0, .s [], .sl true [.s [], .i .i64 0, .s []] [], .sl true [.i .i64 0, .s [], .sl true [.s [], .i .i64 0, .s []] [], .i .i64 0, .s [], .i .i64 0, .s [], .s [], .i .i64 0, .s []] []] = x := fun x => by rw [List.getD_eq_getElem?_getD, List.getElem?_set_self (by rw [List.length_map]; omega)]; rfl
  have hs2 : ∀ x z, ((L.map (c6.cells true true)).set i x).set i z = (L.map (c6.cells true true)).set i z := fun x z => List.set_set ..
  have hg3 : ∀ y x, (((L.set i y).map (c6.cells true true)).set i x).getD i [.i .i64 0, .s [], .sl true [.s [], .i .i64 0, .s []] [], .sl true [.i .i64 0, .s [], .sl true [.s [], .i .i64 0, .s []] [], .i .i64 0, .s [], .i .i64 0, .s [], .s [], .i .i64 0, .s []] []] = x := fun y x => by rw [List.getD_eq_getElem?_getD, List.getElem?_set_self (by rw [List.length_map, List.length_set]; omega)]; rfl
  have hs3 : ∀ y x z, (((L.set i y).map (c6.cells true true)).set i x).set i z = ((L.set i y).map (c6.cells true true)).set i z := fun y x z => List.set_set ..
  have hx : L.getD i default = a.getD i default := by rw [hL]; exact b7M p6 j4 default k (by omega)
  have ht := k7 j4 default (show i < a.length by omega)
  have ht2 := s7 j4 a (i + 1)
  simp only [j4] at ht
  have hw0 : IntKind.i64.wrap ((k + (i5 j4 (a.take i) : Nat)) + 1) = ((k + (i5 j4 (a.take i) : Nat)) + 1) := w64 (by omega) (by omega) (by omega)
  have hw1 : IntKind.i64.wrap (((k + (i5 j4 (a.take i) : Nat)) + 1) + 1) = ((k + (i5 j4 (a.take i) : Nat)) + 2) := w64 (by omega) (by omega) (by omega)
  (try refine A2V ?_); simp only [go_sem, hS0, hgs, hss, hx, hil, hg2, hs2, hg3, hs3, hw0, hw1]; (repeat' first | apply CJ.mk | intro hc); all_goals try ((repeat' first | apply And.intro | intro hs) <;> (try simp only [go_sem, Bool.and_eq_false_iff] at hs) <;> omega)
  all_goals first
   | omega
   | (exact (hc trivial).elim)
   | ((refine lpK_n2 (⟨(i + 1, L.set i (p6 (a.getD i default) (k + (i5 j4 (a.take i) : Nat)))), by simp only; omega, by rw [hL]; exact b7O p6 j4 default k (by omega)⟩) _ rfl ?_; simp only [go_sem, hS0, hgs, hss, hx, hil, hg2, hs2, hg3, hs3, hw0, hw1]; first | done | ((repeat' apply And.intro) <;> first | omega | (refine w64 ?_ ?_ ?_ <;> omega) | rfl | skip)); first | done | (simp only [ht]; omega) | trace_state)
   | trace_state
 ·(try refine A2V ?_); simp only [go_sem, hS0, hil]; (repeat' first | apply CJ.mk | intro hc); all_goals try ((repeat' first | apply And.intro | intro hs) <;> (try simp only [go_sem, Bool.and_eq_false_iff] at hs) <;> omega)
  have h1 := a3E j4 (show ¬ i < a.length by omega)
  rw [List.take_of_length_le (by omega), List.drop_eq_nil_of_le (by omega), List.append_nil] at hL
  all_goals first | exact ⟨by rw [h1], by rw [hL]⟩ | trace_state
noncomputable def a0k : CT := o6 (fun (x : (List c6) × Int) h => a9B x.1 x.2 h)
@[go_sem] theorem b5R (a : List c6) (k : Int) : a0k [(false, [.sl true [.i .i64 0, .s [], .sl true [.s [], .i .i64 0, .s []] [], .sl true [.i .i64 0, .s [], .sl true [.s [], .i .i64 0, .s []] [], .i .i64 0, .s [], .i .i64 0, .s [], .s [], .i .i64 0, .s []] []] (a.map (c6.cells true true))]), (false, [.i .i64 k])] = some (0 ≤ k ∧ k + (i5 j4 a : Nat) ≤ 4611686018427387904, [(0, (false, [.sl true [.i .i64 0, .s [], .sl true [.s [], .i .i64 0, .s []] [], .sl true [.i .i64 0, .s [], .sl true [.s [], .i .i64 0, .s []] [], .i .i64 0, .s [], .i .i64 0, .s [], .s [], .i .i64 0, .s []] []] ((mkL p6 j4 a k).map (c6.cells true true))]))], .one (false, [.i .i64 (k + (i5 j4 a : Nat))])) := i3 _ (by rintro ⟨_, _⟩ ⟨_, _⟩ h; simp at h; simp_all) (a, k)
theorem a6l : OkC Tryz.prog 72 a0k := i4 _
def a1j : ACode := q' ([o' 2 (.box 2 (.t 0)), z' 4 0]) (q' ([f' 5 0 2, l' 6 5, m' 7 1, c' 8 71 [6, 7], m' 1 8]) (q' ([f' 9 1 2, l' 10 9, m' 11 1, c' 12 72 [10, 11], m' 1 12]) (q'
 ([m' 13 1, m' 4 13]) .ret)))
theorem a6u : cmp Tryz.prog Tryz.f18 = some a1j := by kernel_rfl
theorem a7w (a : c8) (k : Int) (hpre : 0 ≤ k ∧ ((k + 3 * (a.Decls.length : Nat)) + (i5 j4 a.Rules : Nat)) ≤ 4611686018427387904) : A0l Tryz.prog 18 [(true, [.sl true [.i .i64 0, .s [], .i .i64 0] (a.Decls.map c7.cells), .sl true [.i .i64 0, .s [], .sl true [.s [], .i .i64 0, .s []] [], .sl true [.i .i64 0, .s [], .sl true [.s [], .i .i64 0, .s []] [], .i .i64 0, .s [], .i .i64 0, .s [], .s [], .i .i64 0, .s []] []] (a.Rules.map (c6.cells true true))]), (false, [.i .i64 k])] [(0, (true, [.sl true [.i .i64 0, .s [], .i .i64 0] (((c8.mk (p7 a.Decls.length k) (mkL p6 j4 a.Rules (k + 3 * (a.Decls.length : Nat)))).Decls).map c7.cells), .sl true [.i .i64 0, .s [], .sl true [.s [], .i .i64 0, .s []] [], .sl true [.i .i64 0, .s [], .sl true [.s [], .i .i64 0, .s []] [], .i .i64 0, .s [], .i .i64 0, .s [], .s [], .i .i64 0, .s []] []] (((c8.mk (p7 a.Decls.length k) (mkL p6 j4 a.Rules (k + 3 * (a.Decls.length : Nat)))).Rules).map (c6.cells true true))]))] (.one (false, [.i .i64 ((k + 3 * (a.Decls.length : Nat)) + (i5 j4 a.Rules : Nat))])) := by
 refine spec_of2 true false (some 0) Tryz.func18 a6u (rvs := [.t 4]) (hΓ := mkCtx_ok (deep := true) (l := [(71, [0], a0j), (72, [0], a0k)]) ⟨a6k, a6l, trivial⟩) (h := ?_)
 intro hb hE
 simp only [go_sem] at hb
 simp only [a1j, x']
 (try refine A2V ?_); simp only [go_sem]; (repeat' first | apply CJ.mk | intro hc); all_goals try ((repeat' first | apply And.intro | intro hs) <;> (try simp only [go_sem, Bool.and_eq_false_iff] at hs) <;> omega)
 all_goals first | omega | trace_state
noncomputable def w4 : CT := o6 (fun (x : c8 × Int) h => a7w x.1 x.2 h)
@[go_sem] theorem b4P (x0 : List c7) (x1 : List c6) (k : Int) : w4 [(true, [.sl true [.i .i64 0, .s [], .i .i64 0] (x0.map c7.cells), .sl true [.i .i64 0, .s [], .sl true [.s [], .i .i64 0, .s []] [], .sl true [.i .i64 0, .s [], .sl true [.s [], .i .i64 0, .s []] [], .i .i64 0, .s [], .i .i64 0, .s [], .s [], .i .i64 0, .s []] []] (x1.map (c6.cells true true))]), (false, [.i .i64 k])] = some (0 ≤ k ∧ ((k + 3 * ((c8.mk x0 x1).Decls.length : Nat)) + (i5 j4 (c8.mk x0 x1).Rules : Nat)) ≤ 4611686018427387904, [(0, (true, [.sl true [.i .i64 0, .s [], .i .i64 0] (((c8.mk (p7 (c8.mk x0 x1).Decls.length k) (mkL p6 j4 (c8.mk x0 x1).Rules (k + 3 * ((c8.mk x0 x1).Decls.length : Nat)))).Decls).map c7.cells), .sl true [.i .i64 0, .s [], .sl true [.s [], .i .i64 0, .s []] [], .sl true [.i .i64 0, .s [], .sl true [.s [], .i .i64 0, .s []] [], .i .i64 0, .s [], .i .i64 0, .s [], .s [], .i .i64 0, .s []] []] (((c8.mk (p7 (c8.mk x0 x1).Decls.length k) (mkL p6 j4 (c8.mk x0 x1).Rules (k + 3 * ((c8.mk x0 x1).Decls.length : Nat)))).Rules).map (c6.cells true true))]))], .one (false, [.i .i64 ((k + 3 * ((c8.mk x0 x1).Decls.length : Nat)) + (i5 j4 (c8.mk x0 x1).Rules : Nat))])) := i3 _ (by rintro ⟨⟨_, _⟩, _⟩ ⟨⟨_, _⟩, _⟩ h; simp at h; simp_all) ((c8.mk x0 x1), k)
theorem a4P : OkC Tryz.prog 18 w4 := i4 _
end Go.Aw
