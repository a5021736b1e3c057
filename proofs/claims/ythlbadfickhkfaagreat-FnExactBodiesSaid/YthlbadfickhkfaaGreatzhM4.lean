/- Marked rules. No condition. -/
import Derived.Test.YthlbadfickhkfaaGreatzhM2
import Derived.Test.YthlbadfickhkfaaGreatlMx2zh
namespace Go.Aw
open Go.Proofs
attribute [local irreducible] aft blk lpK retK AW A0m
set_option linter.unusedVariables false
set_option linter.unusedSimpArgs false
set_option maxRecDepth 100000
set_option maxHeartbeats 4000000
def j6 (x : d4) : Nat := 9 + 3 * x.Atom.Args.length
def u1 (x : d4) (k : Int) : d4 := d4.mk k (d5.mk (a3t (k + 1)) (m7 x.Atom.Args.length (k + 2))) ((k + 2) + 3 * (x.Atom.Args.length : Nat)) (c4.mk (a3t (((k + 2) + 3 * (x.Atom.Args.length : Nat)) + 1)) (c6.mk (((k + 2) + 3 * (x.Atom.Args.length : Nat)) + 2) (a3t (((k + 2) + 3 * (x.Atom.Args.length : Nat)) + 3)))) (c4.mk (a3t (((k + 2) + 3 * (x.Atom.Args.length : Nat)) + 4)) (c6.mk (((k + 2) + 3 * (x.Atom.Args.length : Nat)) + 5) (a3t (((k + 2) + 3 * (x.Atom.Args.length : Nat)) + 6))))
def a4J : ACode := q' ([z' 4 0]) (.seq (q' ([z' 5 0]) (.block 0 (.loop (.seq (q' ([m' 6 5, m' 7 0, n' 8 7, r' 9 6 8]) (.cond (.t 9) .skip (.exit 0))) (.seq (.block 1 (q' ([m' 12
 0, m' 13 5, m' 14 1, i' 15 10 12 13, f' 16 0 15, s' 1 16 14]) (q' ([m' 17 1, a' 18 17, m' 1 18]) (q' ([m' 19 0, m' 20 5, m' 21 1, c' 22 85 [21], i' 23 10 19
 20, f' 24 1 23, f' 25 0 24, s' 1 25 22]) (q' ([m' 26 1, a' 27 26, m' 1 27]) (q' ([m' 28 0, m' 29 5, i' 30 10 28 29, f' 31 1 30, f' 32 1 31, l' 33 32, m' 34 1,
 c' 35 145 [33, 34], m' 1 35]) (q' ([m' 36 0, m' 37 5, m' 38 1, i' 39 10 36 37, f' 40 3 39, s' 1 40 38]) (q' ([m' 41 1, a' 42 41, m' 1 42]) (q' ([m' 43 0, m'
 44 5, m' 45 1, c' 46 85 [45], i' 47 10 43 44, f' 48 4 47, f' 49 0 48, s' 1 49 46]) (q' ([m' 50 1, a' 51 50, m' 1 51]) (q' ([m' 52 0, m' 53 5, m' 54 1, i' 55
 10 52 53, f' 56 4 55, f' 57 1 56, f' 58 0 57, s' 1 58 54]) (q' ([m' 59 1, a' 60 59, m' 1 60]) (q' ([m' 61 0, m' 62 5, m' 63 1, c' 64 85 [63], i' 65 10 61 62,
 f' 66 4 65, f' 67 1 66, f' 68 1 67, s' 1 68 64]) (q' ([m' 69 1, a' 70 69, m' 1 70]) (q' ([m' 71 0, m' 72 5, m' 73 1, c' 74 85 [73], i' 75 10 71 72, f' 76 7
 75, f' 77 0 76, s' 1 77 74]) (q' ([m' 78 1, a' 79 78, m' 1 79]) (q' ([m' 80 0, m' 81 5, m' 82 1, i' 83 10 80 81, f' 84 7 83, f' 85 1 84, f' 86 0 85, s' 1 86
 82]) (q' ([m' 87 1, a' 88 87, m' 1 88]) (q' ([m' 89 0, m' 90 5, m' 91 1, c' 92 85 [91], i' 93 10 89 90, f' 94 7 93, f' 95 1 94, f' 96 1 95, s' 1 96 92]) (g'
 [m' 97 1, a' 98 97, m' 1 98])))))))))))))))))))) (g' [m' 10 5, a' 11 10, m' 5 11])))))) (q' ([m' 99 1, m' 4 99]) .ret))
theorem b1X : cmp Tryz.prog Tryz.f125 = some a4J := by kernel_rfl
theorem b4g (a : List d4) (k : Int) (hpre : 0 ≤ k ∧ k + (i7 j6 a : Nat) ≤ 4611686018427387904) : A0m Tryz.prog 125 [(false, [.sl true [.i .i64 0, .s [], .sl true [.s [], .i .i64 0, .s []] [], .i .i64 0, .s [], .i .i64 0, .s [], .s [], .i .i64 0, .s []] (a.map (d4.cells true true))]), (false, [.i .i64 k])] [(0, (false, [.sl true [.i .i64 0, .s [], .sl true [.s [], .i .i64 0, .s []] [], .i .i64 0, .s [], .i .i64 0, .s [], .s [], .i .i64 0, .s []] ((mkL u1 j6 a k).map (d4.cells true true))]))] (.one (false, [.i .i64 (k + (i7 j6 a : Nat))])) := by
 refine spec_of2 true false (some 0) Tryz.func125 b1X (rvs := [.t 4]) (hΓ := mkCtx_ok (deep := true) (l := [(85, [], p9), (145, [0], a0f)]) ⟨s6, a2q, trivial⟩) (h := ?_)
 intro hb hE
 simp only [go_sem] at hb
 simp only [a4J, x']
 (try refine A2Z ?_); simp only [go_sem]; (repeat' first | apply CJ.mk | intro hc); all_goals try ((repeat' first | apply And.intro | intro hs) <;> (try simp only [go_sem, Bool.and_eq_false_iff] at hs) <;> omega)
 refine aw_loop2 true [] [0] [] [] (fun i : {p : Nat × List d4 // p.1 ≤ a.length ∧ p.2 = mkL u1 j6 (a.take p.1) k ++ a.drop p.1} => [(5, slV (.i .i64 i.1.1)), (1, slV (.i .i64 (k + (i7 j6 (a.take i.1.1) : Nat))))]) (fun i => []) (fun i => [(1, [.i .i64 0, .s [], .sl true [.s [], .i .i64 0, .s []] [], .i .i64 0, .s [], .i .i64 0, .s [], .s [], .i .i64 0, .s []], i.1.2.map (d4.cells true true))]) (fun i => a.length - i.1.1) (⟨(0, a), by simp [mkL]⟩) _ rfl ?_ ?_
 ·simp only [go_sem]
  all_goals first | omega | ((repeat' apply And.intro) <;> first | omega | rfl | skip)
 intro S0 hS0 i
 simp only [go_sem] at hS0
 obtain ⟨⟨i, L⟩, hi, hL⟩ := i
 simp only at hi hL
 have hl : L.length = a.length := by rw [hL]; exact b4F u1 j6 a k i
 by_cases hil : (i : Int) < L.length
 ·have hgs : ∀ x, (L.set i x).getD i default = x := fun x => by rw [List.getD_eq_getElem?_getD, List.getElem?_set_self (by omega)]; rfl
  have hss : ∀ x y, (L.set i x).set i y = L.set i y := fun x y => List.set_set ..
  have hg2 : ∀ x, ((L.map (d4.cells true true)).set i x).getD i [.i .i64 0, .s [], .sl true [.s [], .i .i64 0, .s []] [], .i .i64 0, .s [], .i .i64 0, .s [], .s [], .i .i64 0, .s []] = x := fun x => by rw [List.getD_eq_getElem?_getD, List.getElem?_set_self (by rw [List.length_map]; omega)]; rfl
  have hs2 : ∀ x z, ((L.map (d4.cells true true)).set i x).set i z = (L.map (d4.cells true true)).set i z := fun x z => List.set_set ..
  have hg3 : ∀ y x, (((L.set i y).map (d4.cells true true)).set i x).getD i [.i .i64 0, .s [], .sl true [.s [], .i .i64 0, .s []] [], .i .i64 0, .s [], .i .i64 0, .s [], .s [], .i .i64 0, .s []] = x := fun y x => by rw [List.getD_eq_getElem?_getD, List.getElem?_set_self (by rw [List.length_map, List.length_set]; omega)]; rfl
  have hs3 : ∀ y x z, (((L.set i y).map (d4.cells true true)).set i x).set i z = ((L.set i y).map (d4.cells true true)).set i z := fun y x z => List.set_set ..
  have hx : L.getD i default = a.getD i default := by rw [hL]; exact b4E u1 j6 default k (by omega)
  have ht := j4 j6 default (show i < a.length by omega)
  have ht2 := p7 j6 a (i + 1)
  simp only [j6] at ht
  have hw0 : IntKind.i64.wrap ((k + (i7 j6 (a.take i) : Nat)) + 1) = ((k + (i7 j6 (a.take i) : Nat)) + 1) := w64 (by omega) (by omega) (by omega)
  have hw1 : IntKind.i64.wrap (((k + (i7 j6 (a.take i) : Nat)) + 1) + 1) = ((k + (i7 j6 (a.take i) : Nat)) + 2) := w64 (by omega) (by omega) (by omega)
  have hw2 : IntKind.i64.wrap ((((k + (i7 j6 (a.take i) : Nat)) + 2) + 3 * ((a.getD i default).Atom.Args.length : Nat)) + 1) = ((((k + (i7 j6 (a.take i) : Nat)) + 2) + 3 * ((a.getD i default).Atom.Args.length : Nat)) + 1) := w64 (by omega) (by omega) (by omega)
  have hw3 : IntKind.i64.wrap (((((k + (i7 j6 (a.take i) : Nat)) + 2) + 3 * ((a.getD i default).Atom.Args.length : Nat)) + 1) + 1) = ((((k + (i7 j6 (a.take i) : Nat)) + 2) + 3 * ((a.getD i default).Atom.Args.length : Nat)) + 2) := w64 (by omega) (by omega) (by omega)
  have hw4 : IntKind.i64.wrap (((((k + (i7 j6 (a.take i) : Nat)) + 2) + 3 * ((a.getD i default).Atom.Args.length : Nat)) + 2) + 1) = ((((k + (i7 j6 (a.take i) : Nat)) + 2) + 3 * ((a.getD i default).Atom.Args.length : Nat)) + 3) := w64 (by omega) (by omega) (by omega)
  have hw5 : IntKind.i64.wrap (((((k + (i7 j6 (a.take i) : Nat)) + 2) + 3 * ((a.getD i default).Atom.Args.length : Nat)) + 3) + 1) = ((((k + (i7 j6 (a.take i) : Nat)) + 2) + 3 * ((a.getD i default).Atom.Args.length : Nat)) + 4) := w64 (by omega) (by omega) (by omega)
  have hw6 : IntKind.i64.wrap (((((k + (i7 j6 (a.take i) : Nat)) + 2) + 3 * ((a.getD i default).Atom.Args.length : Nat)) + 4) + 1) = ((((k + (i7 j6 (a.take i) : Nat)) + 2) + 3 * ((a.getD i default).Atom.Args.length : Nat)) + 5) := w64 (by omega) (by omega) (by omega)
  have hw7 : IntKind.i64.wrap (((((k + (i7 j6 (a.take i) : Nat)) + 2) + 3 * ((a.getD i default).Atom.Args.length : Nat)) + 5) + 1) = ((((k + (i7 j6 (a.take i) : Nat)) + 2) + 3 * ((a.getD i default).Atom.Args.length : Nat)) + 6) := w64 (by omega) (by omega) (by omega)
  have hw8 : IntKind.i64.wrap (((((k + (i7 j6 (a.take i) : Nat)) + 2) + 3 * ((a.getD i default).Atom.Args.length : Nat)) + 6) + 1) = ((((k + (i7 j6 (a.take i) : Nat)) + 2) + 3 * ((a.getD i default).Atom.Args.length : Nat)) + 7) := w64 (by omega) (by omega) (by omega)
  (try refine A2Z ?_); simp only [go_sem, hS0, hgs, hss, hx, hil, hg2, hs2, hg3, hs3, hw0, hw1, hw2, hw3, hw4, hw5, hw6, hw7, hw8]; (repeat' first | apply CJ.mk | intro hc); all_goals try ((repeat' first | apply And.intro | intro hs) <;> (try simp only [go_sem, Bool.and_eq_false_iff] at hs) <;> omega)
  all_goals first
   | omega
   | (exact (hc trivial).elim)
   | ((refine lpK_n2 (⟨(i + 1, L.set i (u1 (a.getD i default) (k + (i7 j6 (a.take i) : Nat)))), by simp only; omega, by rw [hL]; exact b4G u1 j6 default k (by omega)⟩) _ rfl ?_; simp only [go_sem, hS0, hgs, hss, hx, hil, hg2, hs2, hg3, hs3, hw0, hw1, hw2, hw3, hw4, hw5, hw6, hw7, hw8]; first | done | ((repeat' apply And.intro) <;> first | omega | (refine w64 ?_ ?_ ?_ <;> omega) | rfl | skip)); first | done | (simp only [ht]; omega) | trace_state)
   | trace_state
 ·(try refine A2Z ?_); simp only [go_sem, hS0, hil]; (repeat' first | apply CJ.mk | intro hc); all_goals try ((repeat' first | apply And.intro | intro hs) <;> (try simp only [go_sem, Bool.and_eq_false_iff] at hs) <;> omega)
  have h1 := a0r j6 (show ¬ i < a.length by omega)
  rw [List.take_of_length_le (by omega), List.drop_eq_nil_of_le (by omega), List.append_nil] at hL
  all_goals first | exact ⟨by rw [h1], by rw [hL]⟩ | trace_state
noncomputable def a1U : CT := l8 (fun (x : (List d4) × Int) h => b4g x.1 x.2 h)
@[go_sem] theorem c2N (a : List d4) (k : Int) : a1U [(false, [.sl true [.i .i64 0, .s [], .sl true [.s [], .i .i64 0, .s []] [], .i .i64 0, .s [], .i .i64 0, .s [], .s [], .i .i64 0, .s []] (a.map (d4.cells true true))]), (false, [.i .i64 k])] = some (0 ≤ k ∧ k + (i7 j6 a : Nat) ≤ 4611686018427387904, [(0, (false, [.sl true [.i .i64 0, .s [], .sl true [.s [], .i .i64 0, .s []] [], .i .i64 0, .s [], .i .i64 0, .s [], .s [], .i .i64 0, .s []] ((mkL u1 j6 a k).map (d4.cells true true))]))], .one (false, [.i .i64 (k + (i7 j6 a : Nat))])) := f9 _ (by rintro ⟨_, _⟩ ⟨_, _⟩ h; simp at h; simp_all) (a, k)
theorem a9o : OkC Tryz.prog 125 a1U := i3 _
def a4H : ACode := q' ([o' 2 (.box 2 (.t 0)), z' 4 0]) (q' ([f' 5 1 2, l' 6 5, m' 7 1, c' 8 145 [6, 7], m' 1 8]) (q' ([m' 9 1, m' 4 9]) .ret))
theorem b1V : cmp Tryz.prog Tryz.f124 = some a4H := by kernel_rfl
theorem b4e (a : d5) (k : Int) (hpre : 0 ≤ k ∧ (k + 3 * (a.Args.length : Nat)) ≤ 4611686018427387904) : A0m Tryz.prog 124 [(true, [.s a.Name, .sl true [.s [], .i .i64 0, .s []] (a.Args.map c4.cells)]), (false, [.i .i64 k])] [(0, (true, [.s ((d5.mk a.Name (m7 a.Args.length k)).Name), .sl true [.s [], .i .i64 0, .s []] (((d5.mk a.Name (m7 a.Args.length k)).Args).map c4.cells)]))] (.one (false, [.i .i64 (k + 3 * (a.Args.length : Nat))])) := by
 refine spec_of2 true false (some 0) Tryz.func124 b1V (rvs := [.t 4]) (hΓ := mkCtx_ok (deep := true) (l := [(145, [0], a0f)]) ⟨a2q, trivial⟩) (h := ?_)
 intro hb hE
 simp only [go_sem] at hb
 simp only [a4H, x']
 (try refine A2Z ?_); simp only [go_sem]; (repeat' first | apply CJ.mk | intro hc); all_goals try ((repeat' first | apply And.intro | intro hs) <;> (try simp only [go_sem, Bool.and_eq_false_iff] at hs) <;> omega)
 all_goals first | omega | trace_state
noncomputable def a1S : CT := l8 (fun (x : d5 × Int) h => b4e x.1 x.2 h)
@[go_sem] theorem c2L (x0 : List UInt8) (x1 : List c4) (k : Int) : a1S [(true, [.s x0, .sl true [.s [], .i .i64 0, .s []] (x1.map c4.cells)]), (false, [.i .i64 k])] = some (0 ≤ k ∧ (k + 3 * ((d5.mk x0 x1).Args.length : Nat)) ≤ 4611686018427387904, [(0, (true, [.s ((d5.mk (d5.mk x0 x1).Name (m7 (d5.mk x0 x1).Args.length k)).Name), .sl true [.s [], .i .i64 0, .s []] (((d5.mk (d5.mk x0 x1).Name (m7 (d5.mk x0 x1).Args.length k)).Args).map c4.cells)]))], .one (false, [.i .i64 (k + 3 * ((d5.mk x0 x1).Args.length : Nat))])) := f9 _ (by rintro ⟨⟨_, _⟩, _⟩ ⟨⟨_, _⟩, _⟩ h; simp at h; simp_all) ((d5.mk x0 x1), k)
theorem a9m : OkC Tryz.prog 124 a1S := i3 _
def a4L : ACode := q' ([o' 2 (.box 4 (.t 0)), z' 4 0]) (q' ([f' 5 1 2, e' 6 2 5, m' 7 1, c' 8 124 [6, 7], m' 1 8]) (q' ([f' 9 3 2, l' 10 9, m' 11 1, c' 12 125 [10, 11], m' 1 12])
 (q' ([m' 13 1, m' 4 13]) .ret)))
theorem b1Z : cmp Tryz.prog Tryz.f52 = some a4L := by kernel_rfl
theorem b4i (a : d3) (k : Int) (hpre : 0 ≤ k ∧ ((k + 3 * (a.Head.Args.length : Nat)) + (i7 j6 a.Body : Nat)) ≤ 4611686018427387904) : A0m Tryz.prog 52 [(true, [.i .i64 a.Kind, .s a.Head.Name, .sl true [.s [], .i .i64 0, .s []] (a.Head.Args.map c4.cells), .sl true [.i .i64 0, .s [], .sl true [.s [], .i .i64 0, .s []] [], .i .i64 0, .s [], .i .i64 0, .s [], .s [], .i .i64 0, .s []] (a.Body.map (d4.cells true true))]), (false, [.i .i64 k])] [(0, (true, [.i .i64 ((d3.mk a.Kind (d5.mk a.Head.Name (m7 a.Head.Args.length k)) (mkL u1 j6 a.Body (k + 3 * (a.Head.Args.length : Nat)))).Kind), .s (((d3.mk a.Kind (d5.mk a.Head.Name (m7 a.Head.Args.length k)) (mkL u1 j6 a.Body (k + 3 * (a.Head.Args.length : Nat)))).Head).Name), .sl true [.s [], .i .i64 0, .s []] ((((d3.mk a.Kind (d5.mk a.Head.Name (m7 a.Head.Args.length k)) (mkL u1 j6 a.Body (k + 3 * (a.Head.Args.length : Nat)))).Head).Args).map c4.cells), .sl true [.i .i64 0, .s [], .sl true [.s [], .i .i64 0, .s []] [], .i .i64 0, .s [], .i .i64 0, .s [], .s [], .i .i64 0, .s []] (((d3.mk a.Kind (d5.mk a.Head.Name (m7 a.Head.Args.length k)) (mkL u1 j6 a.Body (k + 3 * (a.Head.Args.length : Nat)))).Body).map (d4.cells true true))]))] (.one (false, [.i .i64 ((k + 3 * (a.Head.Args.length : Nat)) + (i7 j6 a.Body : Nat))])) := by
 refine spec_of2 true false (some 0) Tryz.func52 b1Z (rvs := [.t 4]) (hΓ := mkCtx_ok (deep := true) (l := [(124, [0], a1S), (125, [0], a1U)]) ⟨a9m, a9o, trivial⟩) (h := ?_)
 intro hb hE
 simp only [go_sem] at hb
 simp only [a4L, x']
 (try refine A2Z ?_); simp only [go_sem]; (repeat' first | apply CJ.mk | intro hc); all_goals try ((repeat' first | apply And.intro | intro hs) <;> (try simp only [go_sem, Bool.and_eq_false_iff] at hs) <;> omega)
 all_goals first | omega | trace_state
noncomputable def a1W : CT := l8 (fun (x : d3 × Int) h => b4i x.1 x.2 h)
@[go_sem] theorem c2P (x0 : Int) (x1 : List UInt8) (x2 : List c4) (x3 : List d4) (k : Int) : a1W [(true, [.i .i64 x0, .s x1, .sl true [.s [], .i .i64 0, .s []] (x2.map c4.cells), .sl true [.i .i64 0, .s [], .sl true [.s [], .i .i64 0, .s []] [], .i .i64 0, .s [], .i .i64 0, .s [], .s [], .i .i64 0, .s []] (x3.map (d4.cells true true))]), (false, [.i .i64 k])] = some (0 ≤ k ∧ ((k + 3 * ((d3.mk x0 (d5.mk x1 x2) x3).Head.Args.length : Nat)) + (i7 j6 (d3.mk x0 (d5.mk x1 x2) x3).Body : Nat)) ≤ 4611686018427387904, [(0, (true, [.i .i64 ((d3.mk (d3.mk x0 (d5.mk x1 x2) x3).Kind (d5.mk (d3.mk x0 (d5.mk x1 x2) x3).Head.Name (m7 (d3.mk x0 (d5.mk x1 x2) x3).Head.Args.length k)) (mkL u1 j6 (d3.mk x0 (d5.mk x1 x2) x3).Body (k + 3 * ((d3.mk x0 (d5.mk x1 x2) x3).Head.Args.length : Nat)))).Kind), .s (((d3.mk (d3.mk x0 (d5.mk x1 x2) x3).Kind (d5.mk (d3.mk x0 (d5.mk x1 x2) x3).Head.Name (m7 (d3.mk x0 (d5.mk x1 x2) x3).Head.Args.length k)) (mkL u1 j6 (d3.mk x0 (d5.mk x1 x2) x3).Body (k + 3 * ((d3.mk x0 (d5.mk x1 x2) x3).Head.Args.length : Nat)))).Head).Name), .sl true [.s [], .i .i64 0, .s []] ((((d3.mk (d3.mk x0 (d5.mk x1 x2) x3).Kind (d5.mk (d3.mk x0 (d5.mk x1 x2) x3).Head.Name (m7 (d3.mk x0 (d5.mk x1 x2) x3).Head.Args.length k)) (mkL u1 j6 (d3.mk x0 (d5.mk x1 x2) x3).Body (k + 3 * ((d3.mk x0 (d5.mk x1 x2) x3).Head.Args.length : Nat)))).Head).Args).map c4.cells), .sl true [.i .i64 0, .s [], .sl true [.s [], .i .i64 0, .s []] [], .i .i64 0, .s [], .i .i64 0, .s [], .s [], .i .i64 0, .s []] (((d3.mk (d3.mk x0 (d5.mk x1 x2) x3).Kind (d5.mk (d3.mk x0 (d5.mk x1 x2) x3).Head.Name (m7 (d3.mk x0 (d5.mk x1 x2) x3).Head.Args.length k)) (mkL u1 j6 (d3.mk x0 (d5.mk x1 x2) x3).Body (k + 3 * ((d3.mk x0 (d5.mk x1 x2) x3).Head.Args.length : Nat)))).Body).map (d4.cells true true))]))], .one (false, [.i .i64 ((k + 3 * ((d3.mk x0 (d5.mk x1 x2) x3).Head.Args.length : Nat)) + (i7 j6 (d3.mk x0 (d5.mk x1 x2) x3).Body : Nat))])) := f9 _ (by rintro ⟨⟨_, ⟨_, _⟩, _⟩, _⟩ ⟨⟨_, ⟨_, _⟩, _⟩, _⟩ h; simp at h; simp_all) ((d3.mk x0 (d5.mk x1 x2) x3), k)
theorem a9q : OkC Tryz.prog 52 a1W := i3 _
end Go.Aw
