/- Marked lists. No condition. -/
import Derived.Test.YthlbadfickhkfaaGreatzfM1
import Derived.Test.YthlbadfickhkfaaGreathBwtzf
namespace Go.Aw
open Go.Proofs
attribute [local irreducible] aft blk lpK retK AW A0l
set_option linter.unusedVariables false
set_option linter.unusedSimpArgs false
set_option maxRecDepth 100000
def a0s (k : Int) : d5 := (d5.mk k (a2b (k + 1)))
def q0 (n : Nat) (k : Int) : List d5 := (List.range n).map fun i : Nat => a0s (k + 2 * (i : Int))
theorem a0f (n : Nat) (k : Int) : (q0 n k).length = n := by simp [q0]
theorem a4J (n : Nat) (k : Int) {i : Nat} (h : i < n) : (q0 n k).getD i default = a0s (k + 2 * (i : Int)) := by
 rw [List.getD_eq_getElem?_getD, q0, List.getElem?_map, List.getElem?_range h]
 rfl
def a9O (k : Int) : c4 := (c4.mk (a2b k) (d5.mk (k + 1) (a2b (k + 2))))
def u1 (n : Nat) (k : Int) : List c4 := (List.range n).map fun i : Nat => a9O (k + 3 * (i : Int))
theorem a0M (n : Nat) (k : Int) : (u1 n k).length = n := by simp [u1]
theorem b2I (n : Nat) (k : Int) {i : Nat} (h : i < n) : (u1 n k).getD i default = a9O (k + 3 * (i : Int)) := by
 rw [List.getD_eq_getElem?_getD, u1, List.getElem?_map, List.getElem?_range h]
 rfl
def a1z : ACode := q' ([z' 4 0]) (.seq (q' ([z' 5 0]) (.block 0 (.loop (.seq (q' ([m' 6 5, m' 7 0, n' 8 7, r' 9 6 8]) (.cond (.t 9) .skip (.exit 0))) (.seq (.block 1 (q' ([m' 12
 0, m' 13 5, m' 14 1, i' 15 2 12 13, f' 16 0 15, s' 1 16 14]) (q' ([m' 17 1, a' 18 17, m' 1 18]) (q' ([m' 19 0, m' 20 5, m' 21 1, c' 22 85 [21], i' 23 2 19 20,
 f' 24 1 23, s' 1 24 22]) (g' [m' 25 1, a' 26 25, m' 1 26]))))) (g' [m' 10 5, a' 11 10, m' 5 11])))))) (q' ([m' 27 1, m' 4 27]) .ret))
theorem a7p : cmp Tryz.prog Tryz.f211 = some a1z := by kernel_rfl
theorem a8A (a : List d5) (k : Int) (hpre : 0 ≤ k ∧ k + 2 * (a.length : Nat) ≤ 4611686018427387904) : A0l Tryz.prog 211 [(false, [.sl true [.i .i64 0, .s []] (a.map d5.cells)]), (false, [.i .i64 k])] [(0, (false, [.sl true [.i .i64 0, .s []] ((q0 a.length k).map d5.cells)]))] (.one (false, [.i .i64 (k + 2 * (a.length : Nat))])) := by
 refine spec_of2 true false (some 0) Tryz.func211 a7p (rvs := [.t 4]) (hΓ := mkCtx_ok (deep := true) (l := [(85, [], k8)]) ⟨j9, trivial⟩) (h := ?_)
 intro hb hE
 simp only [go_sem] at hb
 simp only [a1z, x']
 (try refine A2V ?_); simp only [go_sem]; (repeat' first | apply CJ.mk | intro hc); all_goals try ((repeat' first | apply And.intro | intro hs) <;> (try simp only [go_sem, Bool.and_eq_false_iff] at hs) <;> omega)
 refine aw_loop2 true [] [0] [] [] (fun i : {p : Nat × (List d5) // p.1 ≤ a.length ∧ p.2.length = a.length ∧ p.2.take p.1 = (q0 a.length k).take p.1} => [(5, slV (.i .i64 i.1.1)), (1, slV (.i .i64 (k + 2 * (i.1.1 : Int))))]) (fun i => []) (fun i => [(1, [.i .i64 0, .s []], i.1.2.map d5.cells)]) (fun i => a.length - i.1.1) (⟨(0, a), by simp⟩) _ rfl ?_ ?_
 ·simp only [go_sem]
  all_goals first | omega | ((repeat' apply And.intro) <;> first | omega | rfl | skip)
 intro S0 hS0 i
 simp only [go_sem] at hS0
 obtain ⟨⟨i, L⟩, hi, hl, ht⟩ := i
 simp only at hi hl ht
 by_cases hil : (i : Int) < L.length
 ·have hgs : ∀ x, (L.set i x).getD i default = x := fun x => by rw [List.getD_eq_getElem?_getD, List.getElem?_set_self (by omega)]; rfl
  have hss : ∀ x y, (L.set i x).set i y = L.set i y := fun x y => List.set_set ..
  have hw0 : IntKind.i64.wrap (k + 2 * (i : Int) + 1) = k + 2 * (i : Int) + 1 := w64 (by omega) (by omega) (by omega)
  have hw1 : IntKind.i64.wrap (k + 2 * (i : Int) + 1 + 1) = k + 2 * (i : Int) + 2 := w64 (by omega) (by omega) (by omega)
  (try refine A2V ?_); simp only [go_sem, hS0, hgs, hss, hil, hw0, hw1]; (repeat' first | apply CJ.mk | intro hc); all_goals try ((repeat' first | apply And.intro | intro hs) <;> (try simp only [go_sem, Bool.and_eq_false_iff] at hs) <;> omega)
  (refine lpK_n2 (⟨(i + 1, L.set i (a0s (k + 2 * (i : Int)))), by simp only; omega, by simp [hl], by rw [← a4J a.length k (show i < a.length by omega)]; exact n8 (by rw [hl, a0f]) ht (by rw [a0f]; omega)⟩) _ rfl ?_; simp only [go_sem, hS0, hgs, hss, hil, hw0, hw1]; first | done | ((repeat' apply And.intro) <;> first | omega | (refine w64 ?_ ?_ ?_ <;> omega) | rfl | skip))
  ·exact (hc trivial).elim
 ·(try refine A2V ?_); simp only [go_sem, hS0, hil]; (repeat' first | apply CJ.mk | intro hc); all_goals try ((repeat' first | apply And.intro | intro hs) <;> (try simp only [go_sem, Bool.and_eq_false_iff] at hs) <;> omega)
  obtain rfl : i = a.length := by omega
  obtain rfl := l4 (by rw [hl, a0f]) ht (by rw [a0f]; omega)
  exact ⟨rfl, rfl⟩
noncomputable def z8 : CT := o6 (fun (x : (List d5) × Int) h => a8A x.1 x.2 h)
@[go_sem] theorem b5m (a : List d5) (k : Int) : z8 [(false, [.sl true [.i .i64 0, .s []] (a.map d5.cells)]), (false, [.i .i64 k])] = some (0 ≤ k ∧ k + 2 * (a.length : Nat) ≤ 4611686018427387904, [(0, (false, [.sl true [.i .i64 0, .s []] ((q0 a.length k).map d5.cells)]))], .one (false, [.i .i64 (k + 2 * (a.length : Nat))])) := i3 _ (by rintro ⟨_, _⟩ ⟨_, _⟩ h; simp at h; simp_all) (a, k)
theorem a5R : OkC Tryz.prog 211 z8 := i4 _
def a2k : ACode := q' ([z' 4 0]) (.seq (q' ([z' 5 0]) (.block 0 (.loop (.seq (q' ([m' 6 5, m' 7 0, n' 8 7, r' 9 6 8]) (.cond (.t 9) .skip (.exit 0))) (.seq (.block 1 (q' ([m' 12
 0, m' 13 5, m' 14 1, c' 15 85 [14], i' 16 3 12 13, f' 17 0 16, s' 1 17 15]) (q' ([m' 18 1, a' 19 18, m' 1 19]) (q' ([m' 20 0, m' 21 5, m' 22 1, i' 23 3 20 21,
 f' 24 1 23, f' 25 0 24, s' 1 25 22]) (q' ([m' 26 1, a' 27 26, m' 1 27]) (q' ([m' 28 0, m' 29 5, m' 30 1, c' 31 85 [30], i' 32 3 28 29, f' 33 1 32, f' 34 1 33,
 s' 1 34 31]) (g' [m' 35 1, a' 36 35, m' 1 36]))))))) (g' [m' 10 5, a' 11 10, m' 5 11])))))) (q' ([m' 37 1, m' 4 37]) .ret))
theorem a8k : cmp Tryz.prog Tryz.f145 = some a2k := by kernel_rfl
theorem a9C (a : List c4) (k : Int) (hpre : 0 ≤ k ∧ k + 3 * (a.length : Nat) ≤ 4611686018427387904) : A0l Tryz.prog 145 [(false, [.sl true [.s [], .i .i64 0, .s []] (a.map c4.cells)]), (false, [.i .i64 k])] [(0, (false, [.sl true [.s [], .i .i64 0, .s []] ((u1 a.length k).map c4.cells)]))] (.one (false, [.i .i64 (k + 3 * (a.length : Nat))])) := by
 refine spec_of2 true false (some 0) Tryz.func145 a8k (rvs := [.t 4]) (hΓ := mkCtx_ok (deep := true) (l := [(85, [], k8)]) ⟨j9, trivial⟩) (h := ?_)
 intro hb hE
 simp only [go_sem] at hb
 simp only [a2k, x']
 (try refine A2V ?_); simp only [go_sem]; (repeat' first | apply CJ.mk | intro hc); all_goals try ((repeat' first | apply And.intro | intro hs) <;> (try simp only [go_sem, Bool.and_eq_false_iff] at hs) <;> omega)
 refine aw_loop2 true [] [0] [] [] (fun i : {p : Nat × (List c4) // p.1 ≤ a.length ∧ p.2.length = a.length ∧ p.2.take p.1 = (u1 a.length k).take p.1} => [(5, slV (.i .i64 i.1.1)), (1, slV (.i .i64 (k + 3 * (i.1.1 : Int))))]) (fun i => []) (fun i => [(1, [.s [], .i .i64 0, .s []], i.1.2.map c4.cells)]) (fun i => a.length - i.1.1) (⟨(0, a), by simp⟩) _ rfl ?_ ?_
 ·simp only [go_sem]
  all_goals first | omega | ((repeat' apply And.intro) <;> first | omega | rfl | skip)
 intro S0 hS0 i
 simp only [go_sem] at hS0
 obtain ⟨⟨i, L⟩, hi, hl, ht⟩ := i
 simp only at hi hl ht
 by_cases hil : (i : Int) < L.length
 ·have hgs : ∀ x, (L.set i x).getD i default = x := fun x => by rw [List.getD_eq_getElem?_getD, List.getElem?_set_self (by omega)]; rfl
  have hss : ∀ x y, (L.set i x).set i y = L.set i y := fun x y => List.set_set ..
  have hw0 : IntKind.i64.wrap (k + 3 * (i : Int) + 1) = k + 3 * (i : Int) + 1 := w64 (by omega) (by omega) (by omega)
  have hw1 : IntKind.i64.wrap (k + 3 * (i : Int) + 1 + 1) = k + 3 * (i : Int) + 2 := w64 (by omega) (by omega) (by omega)
  have hw2 : IntKind.i64.wrap (k + 3 * (i : Int) + 2 + 1) = k + 3 * (i : Int) + 3 := w64 (by omega) (by omega) (by omega)
  (try refine A2V ?_); simp only [go_sem, hS0, hgs, hss, hil, hw0, hw1, hw2]; (repeat' first | apply CJ.mk | intro hc); all_goals try ((repeat' first | apply And.intro | intro hs) <;> (try simp only [go_sem, Bool.and_eq_false_iff] at hs) <;> omega)
  (refine lpK_n2 (⟨(i + 1, L.set i (a9O (k + 3 * (i : Int)))), by simp only; omega, by simp [hl], by rw [← b2I a.length k (show i < a.length by omega)]; exact n8 (by rw [hl, a0M]) ht (by rw [a0M]; omega)⟩) _ rfl ?_; simp only [go_sem, hS0, hgs, hss, hil, hw0, hw1, hw2]; first | done | ((repeat' apply And.intro) <;> first | omega | (refine w64 ?_ ?_ ?_ <;> omega) | rfl | skip))
  ·exact (hc trivial).elim
 ·(try refine A2V ?_); simp only [go_sem, hS0, hil]; (repeat' first | apply CJ.mk | intro hc); all_goals try ((repeat' first | apply And.intro | intro hs) <;> (try simp only [go_sem, Bool.and_eq_false_iff] at hs) <;> omega)
  obtain rfl : i = a.length := by omega
  obtain rfl := l4 (by rw [hl, a0M]) ht (by rw [a0M]; omega)
  exact ⟨rfl, rfl⟩
noncomputable def t7 : CT := o6 (fun (x : (List c4) × Int) h => a9C x.1 x.2 h)
@[go_sem] theorem b5S (a : List c4) (k : Int) : t7 [(false, [.sl true [.s [], .i .i64 0, .s []] (a.map c4.cells)]), (false, [.i .i64 k])] = some (0 ≤ k ∧ k + 3 * (a.length : Nat) ≤ 4611686018427387904, [(0, (false, [.sl true [.s [], .i .i64 0, .s []] ((u1 a.length k).map c4.cells)]))], .one (false, [.i .i64 (k + 3 * (a.length : Nat))])) := i3 _ (by rintro ⟨_, _⟩ ⟨_, _⟩ h; simp at h; simp_all) (a, k)
theorem a1k : OkC Tryz.prog 145 t7 := i4 _
def a1x : ACode := q' ([z' 4 0]) (.seq (q' ([z' 5 0]) (.block 0 (.loop (.seq (q' ([m' 6 5, m' 7 0, n' 8 7, r' 9 6 8]) (.cond (.t 9) .skip (.exit 0))) (.seq (.block 1 (.seq (q'
 ([m' 12 0, m' 13 5, i' 14 2 12 13, f' 15 0 14, l' 16 15, m' 17 1, o' 18 (.bin .neq (.t 16) (.t 17))]) (.cond (.t 18) (q' ([o' 4 (.mov (.k (.v false [.c (.i
 .i64 (-1))])))]) .ret) .skip)) (q' ([m' 19 1, a' 20 19, m' 1 20]) (.seq (.seq (.reg true [m' 21 0, m' 22 5, i' 23 2 21 22, f' 24 1 23, l' 25 24, m' 26 1, c'
 27 85 [26], o' 28 (.bin .neq (.t 25) (.t 27))]) (.cond (.t 28) (q' ([o' 4 (.mov (.k (.v false [.c (.i .i64 (-1))])))]) .ret) .skip)) (g' [m' 29 1, a' 30 29,
 m' 1 30]))))) (g' [m' 10 5, a' 11 10, m' 5 11])))))) (q' ([m' 31 1, m' 4 31]) .ret))
theorem a7n : cmp Tryz.prog Tryz.f212 = some a1x := by kernel_rfl
theorem a8y (a : List d5) (k : Int) (hpre : (0 ≤ k ∧ k + 2 * (a.length : Nat) ≤ 4611686018427387904) ∧ a = q0 a.length k) : A0l Tryz.prog 212 [(false, [.sl false [.i .i64 0, .s []] (a.map d5.cells)]), (false, [.i .i64 k])] [] (.one (false, [.i .i64 (k + 2 * (a.length : Nat))])) := by
 refine spec_of2 false false none Tryz.func212 a7n (rvs := [.t 4]) (hΓ := mkCtx_ok (deep := false) (l := [(85, [], k8)]) ⟨j9, trivial⟩) (h := ?_)
 intro hb hE
 simp only [go_sem] at hb
 simp only [a1x, x']
 (try refine A2V ?_); simp only [go_sem]; (repeat' first | apply CJ.mk | intro hc); all_goals try ((repeat' first | apply And.intro | intro hs) <;> (try simp only [go_sem, Bool.and_eq_false_iff] at hs) <;> omega)
 refine aw_loop2 false [] [0] [] [] (fun i : {i : Nat // i ≤ a.length} => [(5, slV (.i .i64 i.1)), (1, slV (.i .i64 (k + 2 * (i.1 : Int))))]) (fun i => []) (fun i => []) (fun i => a.length - i.1) (⟨0, by omega⟩) _ rfl ?_ ?_
 ·simp only [go_sem]
  all_goals first | omega | ((repeat' apply And.intro) <;> first | omega | rfl | skip)
 intro S0 hS0 i
 simp only [go_sem] at hS0
 obtain ⟨i, hi⟩ := i
 by_cases hil : (i : Int) < a.length
 ·have hx : a.getD i default = a0s (k + 2 * (i : Int)) := by rw [hpre.2]; exact a4J _ _ (by omega)
  have hw0 : IntKind.i64.wrap (k + 2 * (i : Int) + 1) = k + 2 * (i : Int) + 1 := w64 (by omega) (by omega) (by omega)
  have hw1 : IntKind.i64.wrap (k + 2 * (i : Int) + 1 + 1) = k + 2 * (i : Int) + 2 := w64 (by omega) (by omega) (by omega)
  (try refine A2V ?_); simp only [go_sem, hS0, hil, hx, a0s, hw0, hw1]; (repeat' first | apply CJ.mk | intro hc); all_goals try ((repeat' first | apply And.intro | intro hs) <;> (try simp only [go_sem, Bool.and_eq_false_iff] at hs) <;> omega)
  all_goals first
   | (exfalso; simp at hc; done)
   | ((refine lpK_n2 (⟨i + 1, by omega⟩) _ rfl ?_; simp only [go_sem, hS0, hil, hx, a0s, hw0, hw1]; first | done | ((repeat' apply And.intro) <;> first | omega | (refine w64 ?_ ?_ ?_ <;> omega) | rfl | skip)); done)
   | trace_state
 ·(try refine A2V ?_); simp only [go_sem, hS0, hil]; (repeat' first | apply CJ.mk | intro hc); all_goals try ((repeat' first | apply And.intro | intro hs) <;> (try simp only [go_sem, Bool.and_eq_false_iff] at hs) <;> omega)
  all_goals (obtain rfl : i = a.length := by omega)
  all_goals rfl
noncomputable def z6 : CT := o6 (fun (x : (List d5) × Int) h => a8y x.1 x.2 h)
@[go_sem] theorem b5k (a : List d5) (k : Int) : z6 [(false, [.sl false [.i .i64 0, .s []] (a.map d5.cells)]), (false, [.i .i64 k])] = some ((0 ≤ k ∧ k + 2 * (a.length : Nat) ≤ 4611686018427387904) ∧ a = q0 a.length k, [], .one (false, [.i .i64 (k + 2 * (a.length : Nat))])) := i3 _ (by rintro ⟨_, _⟩ ⟨_, _⟩ h; simp at h; simp_all) (a, k)
theorem a5P : OkC Tryz.prog 212 z6 := i4 _
end Go.Aw
