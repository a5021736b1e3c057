/- Marked rules. No condition. -/
import Derived.Test.YthlbadfickhkfaaGreatzfM2
import Derived.Test.YthlbadfickhkfaaGreathMx2zf
namespace Go.Aw
open Go.Proofs
attribute [local irreducible] aft blk lpK retK AW A0l
set_option linter.unusedVariables false
set_option linter.unusedSimpArgs false
set_option maxRecDepth 100000
set_option maxHeartbeats 4000000
def j3 (x : c9) : Nat := 9 + 3 * x.Atom.Args.length
def a0S (x : c9) (k : Int) : c9 := c9.mk k (d4.mk (a2b (k + 1)) (u1 x.Atom.Args.length (k + 2))) ((k + 2) + 3 * (x.Atom.Args.length : Nat)) (c4.mk (a2b (((k + 2) + 3 * (x.Atom.Args.length : Nat)) + 1)) (d5.mk (((k + 2) + 3 * (x.Atom.Args.length : Nat)) + 2) (a2b (((k + 2) + 3 * (x.Atom.Args.length : Nat)) + 3)))) (c4.mk (a2b (((k + 2) + 3 * (x.Atom.Args.length : Nat)) + 4)) (d5.mk (((k + 2) + 3 * (x.Atom.Args.length : Nat)) + 5) (a2b (((k + 2) + 3 * (x.Atom.Args.length : Nat)) + 6))))
def a3e : ACode := q' ([z' 4 0]) (.seq (q' ([z' 5 0]) (.block 0 (.loop (.seq (q' ([m' 6 5, m' 7 0, n' 8 7, r' 9 6 8]) (.cond (.t 9) .skip (.exit 0))) (.seq (.block 1 (q' ([m' 12
 0, m' 13 5, m' 14 1, i' 15 10 12 13, f' 16 0 15, s' 1 16 14]) (q' ([m' 17 1, a' 18 17, m' 1 18]) (q' ([m' 19 0, m' 20 5, m' 21 1, c' 22 85 [21], i' 23 10 19
 20, f' 24 1 23, f' 25 0 24, s' 1 25 22]) (q' ([m' 26 1, a' 27 26, m' 1 27]) (q' ([m' 28 0, m' 29 5, i' 30 10 28 29, f' 31 1 30, f' 32 1 31, l' 33 32, m' 34 1,
 c' 35 145 [33, 34], m' 1 35]) (q' ([m' 36 0, m' 37 5, m' 38 1, i' 39 10 36 37, f' 40 3 39, s' 1 40 38]) (q' ([m' 41 1, a' 42 41, m' 1 42]) (q' ([m' 43 0, m'
 44 5, m' 45 1, c' 46 85 [45], i' 47 10 43 44, f' 48 4 47, f' 49 0 48, s' 1 49 46]) (q' ([m' 50 1, a' 51 50, m' 1 51]) (q' ([m' 52 0, m' 53 5, m' 54 1, i' 55
 10 52 53, f' 56 4 55, f' 57 1 56, f' 58 0 57, s' 1 58 54]) (q' ([m' 59 1, a' 60 59, m' 1 60]) (q' ([m' 61 0, m' 62 5, m' 63 1, c' 64 85 [63], i' 65 10 61 62,
 f' 66 4 65, f' 67 1 66, f' 68 1 67, s' 1 68 64]) (q' ([m' 69 1, a' 70 69, m' 1 70]) (q' ([m' 71 0, m' 72 5, m' 73 1, c' 74 85 [73], i' 75 10 71 72, f' 76 7
 75, f' 77 0 76, s' 1 77 74]) (q' ([m' 78 1, a' 79 78, m' 1 79]) (q' ([m' 80 0, m' 81 5, m' 82 1, i' 83 10 80 81, f' 84 7 83, f' 85 1 84, f' 86 0 85, s' 1 86
 82]) (q' ([m' 87 1, a' 88 87, m' 1 88]) (q' ([m' 89 0, m' 90 5, m' 91 1, c' 92 85 [91], i' 93 10 89 90, f' 94 7 93, f' 95 1 94, f' 96 1 95, s' 1 96 92]) (g'
 [m' 97 1, a' 98 97, m' 1 98])))))))))))))))))))) (g' [m' 10 5, a' 11 10, m' 5 11])))))) (q' ([m' 99 1, m' 4 99]) .ret))
theorem a9p : cmp Tryz.prog Tryz.f125 = some a3e := by kernel_rfl
theorem b0U (a : List c9) (k : Int) (hpre : 0 ≤ k ∧ k + (i5 j3 a : Nat) ≤ 4611686018427387904) : A0l Tryz.prog 125 [(false, [.sl true [.i .i64 0, .s [], .sl true [.s [], .i .i64 0, .s []] [], .i .i64 0, .s [], .i .i64 0, .s [], .s [], .i .i64 0, .s []] (a.map (c9.cells true true))]), (false, [.i .i64 k])] [(0, (false, [.sl true [.i .i64 0, .s [], .sl true [.s [], .i .i64 0, .s []] [], .i .i64 0, .s [], .i .i64 0, .s [], .s [], .i .i64 0, .s []] ((mkL a0S j3 a k).map (c9.cells true true))]))] (.one (false, [.i .i64 (k + (i5 j3 a : Nat))])) := by
 refine spec_of2 true false (some 0) Tryz.func125 a9p (rvs := [.t 4]) (hΓ := mkCtx_ok (deep := true) (l := [(85, [], k8), (145, [0], t7)]) ⟨j9, a1k, trivial⟩) (h := ?_)
 intro hb hE
 simp only [go_sem] at hb
 simp only [a3e, x']
 (try refine A2V ?_); simp only [go_sem]; (repeat' first | apply CJ.mk | intro hc); all_goals try ((repeat' first | apply And.intro | intro hs) <;> (try simp only [go_sem, Bool.and_eq_false_iff] at hs) <;> omega)
 refine aw_loop2 true [] [0] [] [] (fun i : {p : Nat × List c9 // p.1 ≤ a.length ∧ p.2 = mkL a0S j3 (a.take p.1) k ++ a.drop p.1} => [(5, slV (.i .i64 i.1.1)), (1, slV (.i .i64 (k + (i5 j3 (a.take i.1.1) : Nat))))]) (fun i => []) (fun i => [(1, [.i .i64 0, .s [], .sl true [.s [], .i .i64 0, .s []] [], .i .i64 0, .s [], .i .i64 0, .s [], .s [], .i .i64 0, .s []], i.1.2.map (c9.cells true true))]) (fun i => a.length - i.1.1) (⟨(0, a), by simp [mkL]⟩) _ rfl ?_ ?_
 ·simp only [go_sem]
  all_goals first | omega | ((repeat' apply And.intro) <;> first | omega | rfl | skip)
 intro S0 hS0 i
 simp only [go_sem] at hS0
 obtain ⟨⟨i, L⟩, hi, hL⟩ := i
 simp only at hi hL
 have hl : L.length = a.length := by rw [hL]; exact b7N a0S j3 a k i
 by_cases hil : (i : Int) < L.length
 ·have hgs : ∀ x, (L.set i x).getD i default = x := fun x => by rw [List.getD_eq_getElem?_getD, List.getElem?_set_self (by omega)]; rfl
  have hss : ∀ x y, (L.set i x).set i y = L.set i y := fun x y => List.set_set ..
  have hg2 : ∀ x, ((L.map (c9.cells true true)).set i x).getD i [.i .i64 0, .s [], .sl true [.s [], .i .i64 0, .s []] [], .i .i64 0, .s [], .i .i64 0, .s [], .s [], .i .i64 0, .s []] = x := fun x => by rw [List.getD_eq_getElem?_getD, List.getElem?_set_self (by rw [List.length_map]; omega)]; rfl
  have hs2 : ∀ x z, ((L.map (c9.cells true true)).set i x).set i z = (L.map (c9.cells true true)).set i z := fun x z => List.set_set ..
  have hg3 : ∀ y x, (((L.set i y).map (c9.cells true true)).set i x).getD i [.i .i64 0, .s [], .sl true [.s [], .i .i64 0, .s []] [], .i .i64 0, .s [], .i .i64 0, .s [], .s [], .i .i64 0, .s []] = x := fun y x => by rw [List.getD_eq_getElem?_getD, List.getElem?_set_self (by rw [List.length_map, List.length_set]; omega)]; rfl
  have hs3 : ∀ y x z, (((L.set i y).map (c9.cells true true)).set i x).set i z = ((L.set i y).map (c9.cells true true)).set i z := fun y x z => List.set_set ..
  have hx : L.getD i default = a.getD i default := by rw [hL]; exact b7M a0S j3 default k (by omega)
  have ht := k7 j3 default (show i < a.length by omega)
  have ht2 := s7 j3 a (i + 1)
  simp only [j3] at ht
  have hw0 : IntKind.i64.wrap ((k + (i5 j3 (a.take i) : Nat)) + 1) = ((k + (i5 j3 (a.take i) : Nat)) + 1) := w64 (by omega) (by omega) (by omega)
  have hw1 : IntKind.i64.wrap (((k + (i5 j3 (a.take i) : Nat)) + 1) + 1) = ((k + (i5 j3 (a.take i) : Nat)) + 2) := w64 (by omega) (by omega) (by omega)
  have hw2 : IntKind.i64.wrap ((((k + (i5 j3 (a.take i) : Nat)) + 2) + 3 * ((a.getD i default).Atom.Args.length : Nat)) + 1) = ((((k + (i5 j3 (a.take i) : Nat)) + 2) + 3 * ((a.getD i default).Atom.Args.length : Nat)) + 1) := w64 (by omega) (by omega) (by omega)
  have hw3 : IntKind.i64.wrap (((((k + (i5 j3 (a.take i) : Nat)) + 2) + 3 * ((a.getD i default).Atom.Args.length : Nat)) + 1) + 1) = ((((k + (i5 j3 (a.take i) : Nat)) + 2) + 3 * ((a.getD i default).Atom.Args.length : Nat)) + 2) := w64 (by omega) (by omega) (by omega)
  have hw4 : IntKind.i64.wrap (((((k + (i5 j3 (a.take i) : Nat)) + 2) + 3 * ((a.getD i default).Atom.Args.length : Nat)) + 2) + 1) = ((((k + (i5 j3 (a.take i) : Nat)) + 2) + 3 * ((a.getD i default).Atom.Args.length : Nat)) + 3) := w64 (by omega) (by omega) (by omega)
  have hw5 : IntKind.i64.wrap (((((k + (i5 j3 (a.take i) : Nat)) + 2) + 3 * ((a.getD i default).Atom.Args.length : Nat)) + 3) + 1) = ((((k + (i5 j3 (a.take i) : Nat)) + 2) + 3 * ((a.getD i default).Atom.Args.length : Nat)) + 4) := w64 (by omega) (by omega) (by omega)
  have hw6 : IntKind.i64.wrap (((((k + (i5 j3 (a.take i) : Nat)) + 2) + 3 * ((a.getD i default).Atom.Args.length : Nat)) + 4) + 1) = ((((k + (i5 j3 (a.take i) : Nat)) + 2) + 3 * ((a.getD i default).Atom.Args.length : Nat)) + 5) := w64 (by omega) (by omega) (by omega)
  have hw7 : IntKind.i64.wrap (((((k + (i5 j3 (a.take i) : Nat)) + 2) + 3 * ((a.getD i default).Atom.Args.length : Nat)) + 5) + 1) = ((((k + (i5 j3 (a.take i) : Nat)) + 2) + 3 * ((a.getD i default).Atom.Args.length : Nat)) + 6) := w64 (by omega) (by omega) (by omega)
  have hw8 : IntKind.i64.wrap (((((k + (i5 j3 (a.take i) : Nat)) + 2) + 3 * ((a.getD i default).Atom.Args.length : Nat)) + 6) + 1) = ((((k + (i5 j3 (a.take i) : Nat)) + 2) + 3 * ((a.getD i default).Atom.Args.length : Nat)) + 7) := w64 (by omega) (by omega) (by omega)
  (try refine A2V ?_); simp only [go_sem, hS0, hgs, hss, hx, hil, hg2, hs2, hg3, hs3, hw0, hw1, hw2, hw3, hw4, hw5, hw6, hw7, hw8]; (repeat' first | apply CJ.mk | intro hc); all_goals try ((repeat' first | apply And.intro | intro hs) <;> (try simp only [go_sem, Bool.and_eq_false_iff] at hs) <;> omega)
  all_goals first
   | omega
   | (exact (hc trivial).elim)
   | ((refine lpK_n2 (⟨(i + 1, L.set i (a0S (a.getD i default) (k + (i5 j3 (a.take i) : Nat)))), by simp only; omega, by rw [hL]; exact b7O a0S j3 default k (by omega)⟩) _ rfl ?_; simp only [go_sem, hS0, hgs, hss, hx, hil, hg2, hs2, hg3, hs3, hw0, hw1, hw2, hw3, hw4, hw5, hw6, hw7, hw8]; first | done | ((repeat' apply And.intro) <;> first | omega | (refine w64 ?_ ?_ ?_ <;> omega) | rfl | skip)); first | done | (simp only [ht]; omega) | trace_state)
   | trace_state
 ·(try refine A2V ?_); simp only [go_sem, hS0, hil]; (repeat' first | apply CJ.mk | intro hc); all_goals try ((repeat' first | apply And.intro | intro hs) <;> (try simp only [go_sem, Bool.and_eq_false_iff] at hs) <;> omega)
  have h1 := a3E j3 (show ¬ i < a.length by omega)
  rw [List.take_of_length_le (by omega), List.drop_eq_nil_of_le (by omega), List.append_nil] at hL
  all_goals first | exact ⟨by rw [h1], by rw [hL]⟩ | trace_state
noncomputable def a0Z : CT := o6 (fun (x : (List c9) × Int) h => b0U x.1 x.2 h)
@[go_sem] theorem b6E (a : List c9) (k : Int) : a0Z [(false, [.sl true [.i .i64 0, .s [], .sl true [.s [], .i .i64 0, .s []] [], .i .i64 0, .s [], .i .i64 0, .s [], .s [], .i .i64 0, .s []] (a.map (c9.cells true true))]), (false, [.i .i64 k])] = some (0 ≤ k ∧ k + (i5 j3 a : Nat) ≤ 4611686018427387904, [(0, (false, [.sl true [.i .i64 0, .s [], .sl true [.s [], .i .i64 0, .s []] [], .i .i64 0, .s [], .i .i64 0, .s [], .s [], .i .i64 0, .s []] ((mkL a0S j3 a k).map (c9.cells true true))]))], .one (false, [.i .i64 (k + (i5 j3 a : Nat))])) := i3 _ (by rintro ⟨_, _⟩ ⟨_, _⟩ h; simp at h; simp_all) (a, k)
theorem a6X : OkC Tryz.prog 125 a0Z := i4 _
end Go.Aw
