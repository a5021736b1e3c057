/- Marked programs, states. No condition. -/
import Derived.Test.YthlbadfickhkfaaGreatzhM4
namespace Go.Aw
open Go.Proofs
attribute [local irreducible] aft blk lpK retK AW A0m
set_option linter.unusedVariables false
set_option linter.unusedSimpArgs false
set_option maxRecDepth 100000
set_option maxHeartbeats 4000000
def v5 (x : c9) : Nat := 2 * x.V.length
def a1G (x : c9) (k : Int) : c9 := c9.mk (a0e x.V.length k)
def j8 (x : d6) : Nat := 2 + i7 v5 x.Rel.Rows
def y5 (x : d6) (k : Int) : d6 := d6.mk (a3t k) (d8.mk (k + 1) (mkL a1G v5 x.Rel.Rows (k + 2)))
def a4K : ACode := q' ([z' 4 0]) (.seq (q' ([z' 5 0]) (.block 0 (.loop (.seq (q' ([m' 6 5, m' 7 0, n' 8 7, r' 9 6 8]) (.cond (.t 9) .skip (.exit 0))) (.seq (.block 1 (g' [m' 12 0,
 m' 13 5, i' 14 1 12 13, f' 15 0 14, l' 16 15, m' 17 1, c' 18 211 [16, 17], m' 1 18])) (g' [m' 10 5, a' 11 10, m' 5 11])))))) (q' ([m' 19 1, m' 4 19]) .ret))
theorem b1Y : cmp Tryz.prog Tryz.f131 = some a4K := by kernel_rfl
theorem b4h (a : List c9) (k : Int) (hpre : 0 ≤ k ∧ k + (i7 v5 a : Nat) ≤ 4611686018427387904) : A0m Tryz.prog 131 [(false, [.sl true [.sl true [.i .i64 0, .s []] []] (a.map (c9.cells true true))]), (false, [.i .i64 k])] [(0, (false, [.sl true [.sl true [.i .i64 0, .s []] []] ((mkL a1G v5 a k).map (c9.cells true true))]))] (.one (false, [.i .i64 (k + (i7 v5 a : Nat))])) := by
 refine spec_of2 true false (some 0) Tryz.func131 b1Y (rvs := [.t 4]) (hΓ := mkCtx_ok (deep := true) (l := [(211, [0], a0E)]) ⟨a7N, trivial⟩) (h := ?_)
 intro hb hE
 simp only [go_sem] at hb
 simp only [a4K, x']
 (try refine A2Z ?_); simp only [go_sem]; (repeat' first | apply CJ.mk | intro hc); all_goals try ((repeat' first | apply And.intro | intro hs) <;> (try simp only [go_sem, Bool.and_eq_false_iff] at hs) <;> omega)
 refine aw_loop2 true [] [0] [] [] (fun i : {p : Nat × List c9 // p.1 ≤ a.length ∧ p.2 = mkL a1G v5 (a.take p.1) k ++ a.drop p.1} => [(5, slV (.i .i64 i.1.1)), (1, slV (.i .i64 (k + (i7 v5 (a.take i.1.1) : Nat))))]) (fun i => []) (fun i => [(1, [.sl true [.i .i64 0, .s []] []], i.1.2.map (c9.cells true true))]) (fun i => a.length - i.1.1) (⟨(0, a), by simp [mkL]⟩) _ rfl ?_ ?_
 ·simp only [go_sem]
  all_goals first | omega | ((repeat' apply And.intro) <;> first | omega | rfl | skip)
 intro S0 hS0 i
 simp only [go_sem] at hS0
 obtain ⟨⟨i, L⟩, hi, hL⟩ := i
 simp only at hi hL
 have hl : L.length = a.length := by rw [hL]; exact b4F a1G v5 a k i
 by_cases hil : (i : Int) < L.length
 ·have hgs : ∀ x, (L.set i x).getD i default = x := fun x => by rw [List.getD_eq_getElem?_getD, List.getElem?_set_self (by omega)]; rfl
  have hss : ∀ x y, (L.set i x).set i y = L.set i y := fun x y => List.set_set ..
  have hg2 : ∀ x, ((L.map (c9.cells true true)).set i x).getD i [.sl true [.i .i64 0, .s []] []] = x := fun x => by rw [List.getD_eq_getElem?_getD, List.getElem?_set_self (by rw [List.length_map]; omega)]; rfl
  have hs2 : ∀ x z, ((L.map (c9.cells true true)).set i x).set i z = (L.map (c9.cells true true)).set i z := fun x z => List.set_set ..
  have hg3 : ∀ y x, (((L.set i y).map (c9.cells true true)).set i x).getD i [.sl true [.i .i64 0, .s []] []] = x := fun y x => by rw [List.getD_eq_getElem?_getD, List.getElem?_set_self (by rw [List.length_map, List.length_set]; omega)]; rfl
  have hs3 : ∀ y x z, (((L.set i y).map (c9.cells true true)).set i x).set i z = ((L.set i y).map (c9.cells true true)).set i z := fun y x z => List.set_set ..
  have hx : L.getD i default = a.getD i default := by rw [hL]; exact b4E a1G v5 default k (by omega)
  have ht := j4 v5 default (show i < a.length by omega)
  have ht2 := p7 v5 a (i + 1)
  simp only [v5] at ht
  (try refine A2Z ?_); simp only [go_sem, hS0, hgs, hss, hx, hil, hg2, hs2, hg3, hs3]; (repeat' first | apply CJ.mk | intro hc); all_goals try ((repeat' first | apply And.intro | intro hs) <;> (try simp only [go_sem, Bool.and_eq_false_iff] at hs) <;> omega)
  all_goals first
   | omega
   | (exact (hc trivial).elim)
   | ((refine lpK_n2 (⟨(i + 1, L.set i (a1G (a.getD i default) (k + (i7 v5 (a.take i) : Nat)))), by simp only; omega, by rw [hL]; exact b4G a1G v5 default k (by omega)⟩) _ rfl ?_; simp only [go_sem, hS0, hgs, hss, hx, hil, hg2, hs2, hg3, hs3]; first | done | ((repeat' apply And.intro) <;> first | omega | (refine w64 ?_ ?_ ?_ <;> omega) | rfl | skip)); first | done | (simp only [ht]; omega) | trace_state)
   | trace_state
 ·(try refine A2Z ?_); simp only [go_sem, hS0, hil]; (repeat' first | apply CJ.mk | intro hc); all_goals try ((repeat' first | apply And.intro | intro hs) <;> (try simp only [go_sem, Bool.and_eq_false_iff] at hs) <;> omega)
  have h1 := a0r v5 (show ¬ i < a.length by omega)
  rw [List.take_of_length_le (by omega), List.drop_eq_nil_of_le (by omega), List.append_nil] at hL
  all_goals first | exact ⟨by rw [h1], by rw [hL]⟩ | trace_state
noncomputable def a1V : CT := l8 (fun (x : (List c9) × Int) h => b4h x.1 x.2 h)
@[go_sem] theorem c2O (a : List c9) (k : Int) : a1V [(false, [.sl true [.sl true [.i .i64 0, .s []] []] (a.map (c9.cells true true))]), (false, [.i .i64 k])] = some (0 ≤ k ∧ k + (i7 v5 a : Nat) ≤ 4611686018427387904, [(0, (false, [.sl true [.sl true [.i .i64 0, .s []] []] ((mkL a1G v5 a k).map (c9.cells true true))]))], .one (false, [.i .i64 (k + (i7 v5 a : Nat))])) := f9 _ (by rintro ⟨_, _⟩ ⟨_, _⟩ h; simp at h; simp_all) (a, k)
theorem a9p : OkC Tryz.prog 131 a1V := i3 _
def a2H : ACode := q' ([z' 4 0]) (.seq (q' ([z' 5 0]) (.block 0 (.loop (.seq (q' ([m' 6 5, m' 7 0, n' 8 7, r' 9 6 8]) (.cond (.t 9) .skip (.exit 0))) (.seq (.block 1 (q' ([m' 12
 0, m' 13 5, m' 14 1, c' 15 85 [14], i' 16 3 12 13, f' 17 0 16, s' 1 17 15]) (q' ([m' 18 1, a' 19 18, m' 1 19]) (q' ([m' 20 0, m' 21 5, m' 22 1, i' 23 3 20 21,
 f' 24 1 23, f' 25 0 24, s' 1 25 22]) (q' ([m' 26 1, a' 27 26, m' 1 27]) (g' [m' 28 0, m' 29 5, i' 30 3 28 29, f' 31 1 30, f' 32 1 31, l' 33 32, m' 34 1, c' 35
 131 [33, 34], m' 1 35])))))) (g' [m' 10 5, a' 11 10, m' 5 11])))))) (q' ([m' 36 1, m' 4 36]) .ret))
theorem a9J : cmp Tryz.prog Tryz.f73 = some a2H := by kernel_rfl
theorem b0P (a : List d6) (k : Int) (hpre : 0 ≤ k ∧ k + (i7 j8 a : Nat) ≤ 4611686018427387904) : A0m Tryz.prog 73 [(false, [.sl true [.s [], .i .i64 0, .sl true [.sl true [.i .i64 0, .s []] []] []] (a.map (d6.cells true true))]), (false, [.i .i64 k])] [(0, (false, [.sl true [.s [], .i .i64 0, .sl true [.sl true [.i .i64 0, .s []] []] []] ((mkL y5 j8 a k).map (d6.cells true true))]))] (.one (false, [.i .i64 (k + (i7 j8 a : Nat))])) := by
 refine spec_of2 true false (some 0) Tryz.func73 a9J (rvs := [.t 4]) (hΓ := mkCtx_ok (deep := true) (l := [(85, [], p9), (131, [0], a1V)]) ⟨s6, a9p, trivial⟩) (h := ?_)
 intro hb hE
 simp only [go_sem] at hb
 simp only [a2H, x']
 (try refine A2Z ?_); simp only [go_sem]; (repeat' first | apply CJ.mk | intro hc); all_goals try ((repeat' first | apply And.intro | intro hs) <;> (try simp only [go_sem, Bool.and_eq_false_iff] at hs) <;> omega)
 refine aw_loop2 true [] [0] [] [] (fun i : {p : Nat × List d6 // p.1 ≤ a.length ∧ p.2 = mkL y5 j8 (a.take p.1) k ++ a.drop p.1} => [(5, slV (.i .i64 i.1.1)), (1, slV (.i .i64 (k + (i7 j8 (a.take i.1.1) : Nat))))]) (fun i => []) (fun i => [(1, [.s [], .i .i64 0, .sl true [.sl true [.i .i64 0, .s []] []] []], i.1.2.map (d6.cells true true))]) (fun i => a.length - i.1.1) (⟨(0, a), by simp [mkL]⟩) _ rfl ?_ ?_
 ·simp only [go_sem]
  all_goals first | omega | ((repeat' apply And.intro) <;> first | omega | rfl | skip)
 intro S0 hS0 i
 simp only [go_sem] at hS0
 obtain ⟨⟨i, L⟩, hi, hL⟩ := i
 simp only at hi hL
 have hl : L.length = a.length := by rw [hL]; exact b4F y5 j8 a k i
 by_cases hil : (i : Int) < L.length
 ·have hgs : ∀ x, (L.set i x).getD i default = x := fun x => by rw [List.getD_eq_getElem?_getD, List.getElem?_set_self (by omega)]; rfl
  have hss : ∀ x y, (L.set i x).set i y = L.set i y := fun x y => List.set_set ..
  have hg2 : ∀ x, ((L.map (d6.cells true true)).set i x).getD i [.s [], .i .i64 0, .sl true [.sl true [.i .i64 0, .s []] []] []] = x := fun x => by rw [List.getD_eq_getElem?_getD, List.getElem?_set_self (by rw [List.length_map]; omega)]; rfl
  have hs2 : ∀ x z, ((L.map (d6.cells true true)).set i x).set i z = (L.map (d6.cells true true)).set i z := fun x z => List.set_set ..
  have hg3 : ∀ y x, (((L.set i y).map (d6.cells true true)).set i x).getD i [.s [], .i .i64 0, .sl true [.sl true [.i .i64 0, .s []] []] []] = x := fun y x => by rw [List.getD_eq_getElem?_getD, List.getElem?_set_self (by rw [List.length_map, List.length_set]; omega)]; rfl
  have hs3 : ∀ y x z, (((L.set i y).map (d6.cells true true)).set i x).set i z = ((L.set i y).map (d6.cells true true)).set i z := fun y x z => List.set_set ..
  have hx : L.getD i default = a.getD i default := by rw [hL]; exact b4E y5 j8 default k (by omega)
  have ht := j4 j8 default (show i < a.length by omega)
  have ht2 := p7 j8 a (i + 1)
  simp only [j8] at ht
  have hw0 : IntKind.i64.wrap ((k + (i7 j8 (a.take i) : Nat)) + 1) = ((k + (i7 j8 (a.take i) : Nat)) + 1) := w64 (by omega) (by omega) (by omega)
  have hw1 : IntKind.i64.wrap (((k + (i7 j8 (a.take i) : Nat)) + 1) + 1) = ((k + (i7 j8 (a.take i) : Nat)) + 2) := w64 (by omega) (by omega) (by omega)
  (try refine A2Z ?_); simp only [go_sem, hS0, hgs, hss, hx, hil, hg2, hs2, hg3, hs3, hw0, hw1]; (repeat' first | apply CJ.mk | intro hc); all_goals try ((repeat' first | apply And.intro | intro hs) <;> (try simp only [go_sem, Bool.and_eq_false_iff] at hs) <;> omega)
  all_goals first
   | omega
   | (exact (hc trivial).elim)
   | ((refine lpK_n2 (⟨(i + 1, L.set i (y5 (a.getD i default) (k + (i7 j8 (a.take i) : Nat)))), by simp only; omega, by rw [hL]; exact b4G y5 j8 default k (by omega)⟩) _ rfl ?_; simp only [go_sem, hS0, hgs, hss, hx, hil, hg2, hs2, hg3, hs3, hw0, hw1]; first | done | ((repeat' apply And.intro) <;> first | omega | (refine w64 ?_ ?_ ?_ <;> omega) | rfl | skip)); first | done | (simp only [ht]; omega) | trace_state)
   | trace_state
 ·(try refine A2Z ?_); simp only [go_sem, hS0, hil]; (repeat' first | apply CJ.mk | intro hc); all_goals try ((repeat' first | apply And.intro | intro hs) <;> (try simp only [go_sem, Bool.and_eq_false_iff] at hs) <;> omega)
  have h1 := a0r j8 (show ¬ i < a.length by omega)
  rw [List.take_of_length_le (by omega), List.drop_eq_nil_of_le (by omega), List.append_nil] at hL
  all_goals first | exact ⟨by rw [h1], by rw [hL]⟩ | trace_state
noncomputable def a0D : CT := l8 (fun (x : (List d6) × Int) h => b0P x.1 x.2 h)
@[go_sem] theorem c0P (a : List d6) (k : Int) : a0D [(false, [.sl true [.s [], .i .i64 0, .sl true [.sl true [.i .i64 0, .s []] []] []] (a.map (d6.cells true true))]), (false, [.i .i64 k])] = some (0 ≤ k ∧ k + (i7 j8 a : Nat) ≤ 4611686018427387904, [(0, (false, [.sl true [.s [], .i .i64 0, .sl true [.sl true [.i .i64 0, .s []] []] []] ((mkL y5 j8 a k).map (d6.cells true true))]))], .one (false, [.i .i64 (k + (i7 j8 a : Nat))])) := f9 _ (by rintro ⟨_, _⟩ ⟨_, _⟩ h; simp at h; simp_all) (a, k)
theorem a7M : OkC Tryz.prog 73 a0D := i3 _
def a3z : ACode := q' ([o' 2 (.box 1 (.t 0)), z' 4 0]) (q' ([f' 5 0 2, l' 6 5, m' 7 1, c' 8 73 [6, 7], m' 1 8]) (q' ([m' 9 1, m' 4 9]) .ret))
theorem b0C : cmp Tryz.prog Tryz.f19 = some a3z := by kernel_rfl
theorem b2s (a : d7) (k : Int) (hpre : 0 ≤ k ∧ (k + (i7 j8 a.Rels : Nat)) ≤ 4611686018427387904) : A0m Tryz.prog 19 [(true, [.sl true [.s [], .i .i64 0, .sl true [.sl true [.i .i64 0, .s []] []] []] (a.Rels.map (d6.cells true true))]), (false, [.i .i64 k])] [(0, (true, [.sl true [.s [], .i .i64 0, .sl true [.sl true [.i .i64 0, .s []] []] []] (((d7.mk (mkL y5 j8 a.Rels k)).Rels).map (d6.cells true true))]))] (.one (false, [.i .i64 (k + (i7 j8 a.Rels : Nat))])) := by
 refine spec_of2 true false (some 0) Tryz.func19 b0C (rvs := [.t 4]) (hΓ := mkCtx_ok (deep := true) (l := [(73, [0], a0D)]) ⟨a7M, trivial⟩) (h := ?_)
 intro hb hE
 simp only [go_sem] at hb
 simp only [a3z, x']
 (try refine A2Z ?_); simp only [go_sem]; (repeat' first | apply CJ.mk | intro hc); all_goals try ((repeat' first | apply And.intro | intro hs) <;> (try simp only [go_sem, Bool.and_eq_false_iff] at hs) <;> omega)
 all_goals first | omega | trace_state
noncomputable def a0Y : CT := l8 (fun (x : d7 × Int) h => b2s x.1 x.2 h)
@[go_sem] theorem c1T (x0 : List d6) (k : Int) : a0Y [(true, [.sl true [.s [], .i .i64 0, .sl true [.sl true [.i .i64 0, .s []] []] []] (x0.map (d6.cells true true))]), (false, [.i .i64 k])] = some (0 ≤ k ∧ (k + (i7 j8 (d7.mk x0).Rels : Nat)) ≤ 4611686018427387904, [(0, (true, [.sl true [.s [], .i .i64 0, .sl true [.sl true [.i .i64 0, .s []] []] []] (((d7.mk (mkL y5 j8 (d7.mk x0).Rels k)).Rels).map (d6.cells true true))]))], .one (false, [.i .i64 (k + (i7 j8 (d7.mk x0).Rels : Nat))])) := f9 _ (by rintro ⟨⟨_⟩, _⟩ ⟨⟨_⟩, _⟩ h; simp at h; simp_all) ((d7.mk x0), k)
theorem a8p : OkC Tryz.prog 19 a0Y := i3 _
end Go.Aw
