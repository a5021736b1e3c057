/- Marked lists. No condition. -/
import Derived.Test.YthlbadfickhkfaaGreatzeM1
import Derived.Test.YthlbadfickhkfaaGreathBwtze
namespace Go.Aw
open Go.Proofs
attribute [local irreducible] aft blk lpK retK AW A0l
set_option linter.unusedVariables false
set_option linter.unusedSimpArgs false
set_option maxRecDepth 100000
def b2g (k : Int) : c5 := (c5.mk (a3M k) (d3.mk (k + 1) (a3M (k + 2))))
def y6 (n : Nat) (k : Int) : List c5 := (List.range n).map fun i : Nat => b2g (k + 3 * (i : Int))
theorem a1w (n : Nat) (k : Int) : (y6 n k).length = n := by simp [y6]
theorem b5E (n : Nat) (k : Int) {i : Nat} (h : i < n) : (y6 n k).getD i default = b2g (k + 3 * (i : Int)) := by
 rw [List.getD_eq_getElem?_getD, y6, List.getElem?_map, List.getElem?_range h]
 rfl
def a3o : ACode := q' ([z' 4 0]) (.seq (q' ([z' 5 0]) (.block 0 (.loop (.seq (q' ([m' 6 5, m' 7 0, n' 8 7, r' 9 6 8]) (.cond (.t 9) .skip (.exit 0))) (.seq (.block 1 (q' ([m' 12
 0, m' 13 5, m' 14 1, c' 15 85 [14], i' 16 3 12 13, f' 17 0 16, s' 1 17 15]) (q' ([m' 18 1, a' 19 18, m' 1 19]) (q' ([m' 20 0, m' 21 5, m' 22 1, i' 23 3 20 21,
 f' 24 1 23, f' 25 0 24, s' 1 25 22]) (q' ([m' 26 1, a' 27 26, m' 1 27]) (q' ([m' 28 0, m' 29 5, m' 30 1, c' 31 85 [30], i' 32 3 28 29, f' 33 1 32, f' 34 1 33,
 s' 1 34 31]) (g' [m' 35 1, a' 36 35, m' 1 36]))))))) (g' [m' 10 5, a' 11 10, m' 5 11])))))) (q' ([m' 37 1, m' 4 37]) .ret))
theorem b0f : cmp Tryz.prog Tryz.f145 = some a3o := by kernel_rfl
theorem b1P (a : List c5) (k : Int) (hpre : 0 ≤ k ∧ k + 3 * (a.length : Nat) ≤ 4611686018427387904) : A0l Tryz.prog 145 [(false, [.sl true [.s [], .i .i64 0, .s []] (a.map c5.cells)]), (false, [.i .i64 k])] [(0, (false, [.sl true [.s [], .i .i64 0, .s []] ((y6 a.length k).map c5.cells)]))] (.one (false, [.i .i64 (k + 3 * (a.length : Nat))])) := by
 refine spec_of2 true false (some 0) Tryz.func145 b0f (rvs := [.t 4]) (hΓ := mkCtx_ok (deep := true) (l := [(85, [], n0)]) ⟨n7, trivial⟩) (h := ?_)
 intro hb hE
 simp only [go_sem] at hb
 simp only [a3o, x']
 (try refine A2V ?_); simp only [go_sem]; (repeat' first | apply CJ.mk | intro hc); all_goals try ((repeat' first | apply And.intro | intro hs) <;> (try simp only [go_sem, Bool.and_eq_false_iff] at hs) <;> omega)
 refine aw_loop2 true [] [0] [] [] (fun i : {p : Nat × (List c5) // p.1 ≤ a.length ∧ p.2.length = a.length ∧ p.2.take p.1 = (y6 a.length k).take p.1} => [(5, slV (.i .i64 i.1.1)), (1, slV (.i .i64 (k + 3 * (i.1.1 : Int))))]) (fun i => []) (fun i => [(1, [.s [], .i .i64 0, .s []], i.1.2.map c5.cells)]) (fun i => a.length - i.1.1) (⟨(0, a), by simp⟩) _ rfl ?_ ?_
 ·simp only [go_sem]
  all_goals first | omega | ((repeat' apply And.intro) <;> first | omega | rfl | skip)
 intro S0 hS0 i
 simp only [go_sem] at hS0
 obtain ⟨⟨i, L⟩, hi, hl, ht⟩ := i
 simp only at hi hl ht
 by_cases hil : (i : Int) < L.length
 ·have hgs : ∀ x, (L.set i x).getD i default = x := fun x => by rw [List.getD_eq_getElem?_getD, List.getElem?_set_self (by omega)]; rfl
  have hss : ∀ x y, (L.set i x).set i y = L.set i y := fun x y => List.set_set ..
  have hw0 : IntKind.i64.wrap (k + 3 * (i : Int) + 1) = k + 3 * (i : Int) + 1 := w64 (by omega) (by omega) (by omega)
  have hw1 : IntKind.i64.wrap (k + 3 * (i : Int) + 1 + 1) = k + 3 * (i : Int) + 2 := w64 (by omega) (by omega) (by omega)
  have hw2 : IntKind.i64.wrap (k + 3 * (i : Int) + 2 + 1) = k + 3 * (i : Int) + 3 := w64 (by omega) (by omega) (by omega)
  (try refine A2V ?_); simp only [go_sem, hS0, hgs, hss, hil, hw0, hw1, hw2]; (repeat' first | apply CJ.mk | intro hc); all_goals try ((repeat' first | apply And.intro | intro hs) <;> (try simp only [go_sem, Bool.and_eq_false_iff] at hs) <;> omega)
  (refine lpK_n2 (⟨(i + 1, L.set i (b2g (k + 3 * (i : Int)))), by simp only; omega, by simp [hl], by rw [← b5E a.length k (show i < a.length by omega)]; exact p5 (by rw [hl, a1w]) ht (by rw [a1w]; omega)⟩) _ rfl ?_; simp only [go_sem, hS0, hgs, hss, hil, hw0, hw1, hw2]; first | done | ((repeat' apply And.intro) <;> first | omega | (refine w64 ?_ ?_ ?_ <;> omega) | rfl | skip))
  ·exact (hc trivial).elim
 ·(try refine A2V ?_); simp only [go_sem, hS0, hil]; (repeat' first | apply CJ.mk | intro hc); all_goals try ((repeat' first | apply And.intro | intro hs) <;> (try simp only [go_sem, Bool.and_eq_false_iff] at hs) <;> omega)
  obtain rfl : i = a.length := by omega
  obtain rfl := o0 (by rw [hl, a1w]) ht (by rw [a1w]; omega)
  exact ⟨rfl, rfl⟩
noncomputable def w9 : CT := p4 (fun (x : (List c5) × Int) h => b1P x.1 x.2 h)
@[go_sem] theorem b9U (a : List c5) (k : Int) : w9 [(false, [.sl true [.s [], .i .i64 0, .s []] (a.map c5.cells)]), (false, [.i .i64 k])] = some (0 ≤ k ∧ k + 3 * (a.length : Nat) ≤ 4611686018427387904, [(0, (false, [.sl true [.s [], .i .i64 0, .s []] ((y6 a.length k).map c5.cells)]))], .one (false, [.i .i64 (k + 3 * (a.length : Nat))])) := i6 _ (by rintro ⟨_, _⟩ ⟨_, _⟩ h; simp at h; simp_all) (a, k)
theorem a2c : OkC Tryz.prog 145 w9 := i7 _
end Go.Aw
