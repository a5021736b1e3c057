/- The law of a rule's bodies. No condition. -/
import Derived.Test.YthlbadfickhkfaaGreatzhT39
import Derived.Test.YthlbadfickhkfaaGreatzhB3
import Derived.Test.YthlbadfickhkfaaGreatzhB4
import Derived.Test.YthlbadfickhkfaaGreatzhB0
import Derived.Test.YthlbadfickhkfaaGreatzhM5
namespace Go.Aw
open Go.Proofs
attribute [local irreducible] aft blk lpK retK AW A0m
set_option linter.unusedVariables false
set_option linter.unusedSimpArgs false
set_option maxRecDepth 100000
theorem c6c (l : List d4) : i7 j6 l ≤ 9 * (l.length + i7 v6 l) := b4H j6 v6 9 (fun x => by simp only [j6, v6, a0P]; omega) l
theorem c6d (l : List c9) : i7 v5 l ≤ 2 * (l.length + i7 v7 l) := b4H v5 v7 2 (fun x => by simp only [v5, v7]; omega) l
theorem c0W (l : List d6) : i7 j8 l ≤ 2 * (l.length + i7 o6 l) := b4H j8 o6 2 (fun x => by
 have := c6d x.Rel.Rows
 simp only [j8, o6, a8c]; omega) l
def a7e : ACode := q' ([b' 4 false]) (.seq (q' ([m' 6 0, n' 7 6, m' 8 1, n' 9 8, o' 10 (.bin .neq (.t 7) (.t 9))]) (.cond (.t 10) (q' ([b' 4 false]) .ret) .skip)) (.seq (q' ([z' 5
 0]) (.block 0 (.loop (.seq (q' ([m' 11 5, m' 12 0, n' 13 12, r' 14 11 13]) (.cond (.t 14) .skip (.exit 0))) (.seq (.block 1 (.seq (.reg true [m' 17 0, m' 18
 5, i' 19 1 17 18, e' 20 1 19, m' 21 1, m' 22 5, i' 23 1 21 22, e' 24 1 23, c' 25 121 [20, 24], o' 26 (.not (.t 25))]) (.cond (.t 26) (q' ([b' 4 false]) .ret)
 .skip))) (g' [m' 15 5, a' 16 15, m' 5 16])))))) (q' ([b' 4 true]) .ret)))
theorem b5B : cmp Tryz.prog Tryz.f50 = some a7e := by kernel_rfl
theorem b8d (a : List c8) (b : List c8) : A0m Tryz.prog 50 [(false, [.sl false [.sl false [.s [], .i .i64 0, .s []] []] (a.map (c8.cells false false))]), (false, [.sl false [.sl false [.s [], .i .i64 0, .s []] []] (b.map (c8.cells false false))])] [] (.one (false, [.b (decide (a = b))])) := by
 refine spec_of2 false false none Tryz.func50 b5B (rvs := [.t 4]) (hΓ := mkCtx_ok (deep := false) (l := [(121, [], a5K)]) ⟨b3f, trivial⟩) (h := ?_)
 intro hb hE
 simp only [go_sem] at hb
 simp only [a7e, x']
 (try refine A2Z ?_); simp only [go_sem]; (repeat' first | apply CJ.mk | intro hc); all_goals try ((repeat' first | apply And.intro | intro hs) <;> (try simp only [go_sem, Bool.and_eq_false_iff] at hs) <;> omega)
 ·symm
  rw [decide_eq_false_iff_not]
  rintro rfl
  simp at hc
 have hl : a.length = b.length := by simpa [Int.ofNat_inj] using hc
 refine aw_loop2 false [] [0, 1] [] [] (fun i : {i : Nat // i ≤ a.length ∧ a.take i = b.take i} => [(5, slV (.i .i64 i.1))]) (fun i => []) (fun i => []) (fun i => a.length - i.1) (⟨0, by simp⟩) _ rfl ?_ ?_
 ·simp only [go_sem]
  all_goals first | omega | ((repeat' apply And.intro) <;> first | omega | rfl | skip)
 intro S0 hS0 i
 simp only [go_sem] at hS0
 obtain ⟨i, hi, ht⟩ := i
 (try refine A2Z ?_); simp only [go_sem, hS0]; (repeat' first | apply CJ.mk | intro hc); all_goals try ((repeat' first | apply And.intro | intro hs) <;> (try simp only [go_sem, Bool.and_eq_false_iff] at hs) <;> omega)
 ·exact (decide_eq_false (a0u default (i := i) (by simpa using hc))).symm
 ·(refine lpK_n2 (⟨i + 1, by omega, y7 ht (by omega) (by omega) (d := default) (by simpa using hc)⟩) _ rfl ?_; simp only [go_sem, hS0]; first | done | ((repeat' apply And.intro) <;> first | omega | (refine w64 ?_ ?_ ?_ <;> omega) | rfl | skip))
 ·exact (decide_eq_true (o7 hl ht (by omega))).symm
 all_goals trace_state
noncomputable def a4f : CT := j7 (fun (x : (List c8) × (List c8)) => b8d x.1 x.2)
@[go_sem] theorem c5y (a b : List c8) : a4f [(false, [.sl false [.sl false [.s [], .i .i64 0, .s []] []] (a.map (c8.cells false false))]), (false, [.sl false [.sl false [.s [], .i .i64 0, .s []] []] (b.map (c8.cells false false))])] = some (True, [], .one (false, [.b (decide (a = b))])) := f7 _ (by rintro ⟨_, _⟩ ⟨_, _⟩ h; simp at h; simp_all) (a, b)
theorem b1p : OkC Tryz.prog 50 a4f := f8 _
def l5 (x : c8) : Nat := 3 * x.Binds.length
def p6 (x : c8) (k : Int) : c8 := c8.mk (z5 x.Binds.length k)
def a4I : ACode := q' ([z' 4 0]) (.seq (q' ([z' 5 0]) (.block 0 (.loop (.seq (q' ([m' 6 5, m' 7 0, n' 8 7, r' 9 6 8]) (.cond (.t 9) .skip (.exit 0))) (.seq (.block 1 (g' [m' 12 0,
 m' 13 5, i' 14 1 12 13, f' 15 0 14, l' 16 15, m' 17 1, c' 18 126 [16, 17], m' 1 18])) (g' [m' 10 5, a' 11 10, m' 5 11])))))) (q' ([m' 19 1, m' 4 19]) .ret))
theorem b1W : cmp Tryz.prog Tryz.f53 = some a4I := by kernel_rfl
theorem b4f (a : List c8) (k : Int) (hpre : 0 ≤ k ∧ k + (i7 l5 a : Nat) ≤ 4611686018427387904) : A0m Tryz.prog 53 [(false, [.sl true [.sl true [.s [], .i .i64 0, .s []] []] (a.map (c8.cells true true))]), (false, [.i .i64 k])] [(0, (false, [.sl true [.sl true [.s [], .i .i64 0, .s []] []] ((mkL p6 l5 a k).map (c8.cells true true))]))] (.one (false, [.i .i64 (k + (i7 l5 a : Nat))])) := by
 refine spec_of2 true false (some 0) Tryz.func53 b1W (rvs := [.t 4]) (hΓ := mkCtx_ok (deep := true) (l := [(126, [0], a0X)]) ⟨a8o, trivial⟩) (h := ?_)
 intro hb hE
 simp only [go_sem] at hb
 simp only [a4I, x']
 (try refine A2Z ?_); simp only [go_sem]; (repeat' first | apply CJ.mk | intro hc); all_goals try ((repeat' first | apply And.intro | intro hs) <;> (try simp only [go_sem, Bool.and_eq_false_iff] at hs) <;> omega)
 refine aw_loop2 true [] [0] [] [] (fun i : {p : Nat × List c8 // p.1 ≤ a.length ∧ p.2 = mkL p6 l5 (a.take p.1) k ++ a.drop p.1} => [(5, slV (.i .i64 i.1.1)), (1, slV (.i .i64 (k + (i7 l5 (a.take i.1.1) : Nat))))]) (fun i => []) (fun i => [(1, [.sl true [.s [], .i .i64 0, .s []] []], i.1.2.map (c8.cells true true))]) (fun i => a.length - i.1.1) (⟨(0, a), by simp [mkL]⟩) _ rfl ?_ ?_
 ·simp only [go_sem]
  all_goals first | omega | ((repeat' apply And.intro) <;> first | omega | rfl | skip)
 intro S0 hS0 i
 simp only [go_sem] at hS0
 obtain ⟨⟨i, L⟩, hi, hL⟩ := i
 simp only at hi hL
 have hl : L.length = a.length := by rw [hL]; exact b4F p6 l5 a k i
 by_cases hil : (i : Int) < L.length
 ·have hgs : ∀ x, (L.set i x).getD i default = x := fun x => by rw [List.getD_eq_getElem?_getD, List.getElem?_set_self (by omega)]; rfl
  have hss : ∀ x y, (L.set i x).set i y = L.set i y := fun x y => List.set_set ..
  have hg2 : ∀ x, ((L.map (c8.cells true true)).set i x).getD i [.sl true [.s [], .i .i64 0, .s []] []] = x := fun x => by rw [List.getD_eq_getElem?_getD, List.getElem?_set_self (by rw [List.length_map]; omega)]; rfl
  have hs2 : ∀ x z, ((L.map (c8.cells true true)).set i x).set i z = (L.map (c8.cells true true)).set i z := fun x z => List.set_set ..
  have hg3 : ∀ y x, (((L.set i y).map (c8.cells true true)).set i x).getD i [.sl true [.s [], .i .i64 0, .s []] []] = x := fun y x => by rw [List.getD_eq_getElem?_getD, List.getElem?_set_self (by rw [List.length_map, List.length_set]; omega)]; rfl
  have hs3 : ∀ y x z, (((L.set i y).map (c8.cells true true)).set i x).set i z = ((L.set i y).map (c8.cells true true)).set i z := fun y x z => List.set_set ..
  have hx : L.getD i default = a.getD i default := by rw [hL]; exact b4E p6 l5 default k (by omega)
  have ht := j4 l5 default (show i < a.length by omega)
  have ht2 := p7 l5 a (i + 1)
  simp only [l5] at ht
  (try refine A2Z ?_); simp only [go_sem, hS0, hgs, hss, hx, hil, hg2, hs2, hg3, hs3]; (repeat' first | apply CJ.mk | intro hc); all_goals try ((repeat' first | apply And.intro | intro hs) <;> (try simp only [go_sem, Bool.and_eq_false_iff] at hs) <;> omega)
  all_goals first
   | omega
   | (exact (hc trivial).elim)
   | ((refine lpK_n2 (⟨(i + 1, L.set i (p6 (a.getD i default) (k + (i7 l5 (a.take i) : Nat)))), by simp only; omega, by rw [hL]; exact b4G p6 l5 default k (by omega)⟩) _ rfl ?_; simp only [go_sem, hS0, hgs, hss, hx, hil, hg2, hs2, hg3, hs3]; first | done | ((repeat' apply And.intro) <;> first | omega | (refine w64 ?_ ?_ ?_ <;> omega) | rfl | skip)); first | done | (simp only [ht]; omega) | trace_state)
   | trace_state
 ·(try refine A2Z ?_); simp only [go_sem, hS0, hil]; (repeat' first | apply CJ.mk | intro hc); all_goals try ((repeat' first | apply And.intro | intro hs) <;> (try simp only [go_sem, Bool.and_eq_false_iff] at hs) <;> omega)
  have h1 := a0r l5 (show ¬ i < a.length by omega)
  rw [List.take_of_length_le (by omega), List.drop_eq_nil_of_le (by omega), List.append_nil] at hL
  all_goals first | exact ⟨by rw [h1], by rw [hL]⟩ | trace_state
noncomputable def a1T : CT := l8 (fun (x : (List c8) × Int) h => b4f x.1 x.2 h)
@[go_sem] theorem c2M (a : List c8) (k : Int) : a1T [(false, [.sl true [.sl true [.s [], .i .i64 0, .s []] []] (a.map (c8.cells true true))]), (false, [.i .i64 k])] = some (0 ≤ k ∧ k + (i7 l5 a : Nat) ≤ 4611686018427387904, [(0, (false, [.sl true [.sl true [.s [], .i .i64 0, .s []] []] ((mkL p6 l5 a k).map (c8.cells true true))]))], .one (false, [.i .i64 (k + (i7 l5 a : Nat))])) := f9 _ (by rintro ⟨_, _⟩ ⟨_, _⟩ h; simp at h; simp_all) (a, k)
theorem a9n : OkC Tryz.prog 53 a1T := i3 _
def a3x : ACode := q' ([z' 4 0]) (.seq (q' ([z' 5 0]) (.block 0 (.loop (.seq (q' ([m' 6 5, m' 7 0, n' 8 7, r' 9 6 8]) (.cond (.t 9) .skip (.exit 0))) (.seq (.block 1 (.seq (.seq
 (.reg true [m' 12 0, m' 13 5, i' 14 3 12 13, f' 15 0 14, l' 16 15, m' 17 1, c' 18 85 [17], o' 19 (.bin .neq (.t 16) (.t 18))]) (.cond (.t 19) (q' ([o' 4 (.mov
 (.k (.v false [.c (.i .i64 (-1))])))]) .ret) .skip)) (q' ([m' 20 1, a' 21 20, m' 1 21]) (.seq (q' ([m' 22 0, m' 23 5, i' 24 3 22 23, f' 25 1 24, f' 26 0 25,
 l' 27 26, m' 28 1, o' 29 (.bin .neq (.t 27) (.t 28))]) (.cond (.t 29) (q' ([o' 4 (.mov (.k (.v false [.c (.i .i64 (-1))])))]) .ret) .skip)) (q' ([m' 30 1, a'
 31 30, m' 1 31]) (.seq (.seq (.reg true [m' 32 0, m' 33 5, i' 34 3 32 33, f' 35 1 34, f' 36 1 35, l' 37 36, m' 38 1, c' 39 85 [38], o' 40 (.bin .neq (.t 37)
 (.t 39))]) (.cond (.t 40) (q' ([o' 4 (.mov (.k (.v false [.c (.i .i64 (-1))])))]) .ret) .skip)) (g' [m' 41 1, a' 42 41, m' 1 42]))))))) (g' [m' 10 5, a' 11
 10, m' 5 11])))))) (q' ([m' 43 1, m' 4 43]) .ret))
theorem b0A : cmp Tryz.prog Tryz.f127 = some a3x := by kernel_rfl
theorem b2q (a : List c7) (k : Int) (hpre : (0 ≤ k ∧ k + 3 * (a.length : Nat) ≤ 4611686018427387904) ∧ a = z5 a.length k) : A0m Tryz.prog 127 [(false, [.sl false [.s [], .i .i64 0, .s []] (a.map c7.cells)]), (false, [.i .i64 k])] [] (.one (false, [.i .i64 (k + 3 * (a.length : Nat))])) := by
 refine spec_of2 false false none Tryz.func127 b0A (rvs := [.t 4]) (hΓ := mkCtx_ok (deep := false) (l := [(85, [], p9)]) ⟨s6, trivial⟩) (h := ?_)
 intro hb hE
 simp only [go_sem] at hb
 simp only [a3x, x']
 (try refine A2Z ?_); simp only [go_sem]; (repeat' first | apply CJ.mk | intro hc); all_goals try ((repeat' first | apply And.intro | intro hs) <;> (try simp only [go_sem, Bool.and_eq_false_iff] at hs) <;> omega)
 refine aw_loop2 false [] [0] [] [] (fun i : {i : Nat // i ≤ a.length} => [(5, slV (.i .i64 i.1)), (1, slV (.i .i64 (k + 3 * (i.1 : Int))))]) (fun i => []) (fun i => []) (fun i => a.length - i.1) (⟨0, by omega⟩) _ rfl ?_ ?_
 ·simp only [go_sem]
  all_goals first | omega | ((repeat' apply And.intro) <;> first | omega | rfl | skip)
 intro S0 hS0 i
 simp only [go_sem] at hS0
 obtain ⟨i, hi⟩ := i
 by_cases hil : (i : Int) < a.length
 ·have hx : a.getD i default = a2B (k + 3 * (i : Int)) := by rw [hpre.2]; exact a8a _ _ (by omega)
  have hw0 : IntKind.i64.wrap (k + 3 * (i : Int) + 1) = k + 3 * (i : Int) + 1 := w64 (by omega) (by omega) (by omega)
  have hw1 : IntKind.i64.wrap (k + 3 * (i : Int) + 1 + 1) = k + 3 * (i : Int) + 2 := w64 (by omega) (by omega) (by omega)
  have hw2 : IntKind.i64.wrap (k + 3 * (i : Int) + 2 + 1) = k + 3 * (i : Int) + 3 := w64 (by omega) (by omega) (by omega)
  (try refine A2Z ?_); simp only [go_sem, hS0, hil, hx, a2B, hw0, hw1, hw2]; (repeat' first | apply CJ.mk | intro hc); all_goals try ((repeat' first | apply And.intro | intro hs) <;> (try simp only [go_sem, Bool.and_eq_false_iff] at hs) <;> omega)
  all_goals first
   | (exfalso; simp at hc; done)
   | ((refine lpK_n2 (⟨i + 1, by omega⟩) _ rfl ?_; simp only [go_sem, hS0, hil, hx, a2B, hw0, hw1, hw2]; first | done | ((repeat' apply And.intro) <;> first | omega | (refine w64 ?_ ?_ ?_ <;> omega) | rfl | skip)); done)
   | trace_state
 ·(try refine A2Z ?_); simp only [go_sem, hS0, hil]; (repeat' first | apply CJ.mk | intro hc); all_goals try ((repeat' first | apply And.intro | intro hs) <;> (try simp only [go_sem, Bool.and_eq_false_iff] at hs) <;> omega)
  all_goals (obtain rfl : i = a.length := by omega)
  all_goals rfl
noncomputable def a0W : CT := l8 (fun (x : (List c7) × Int) h => b2q x.1 x.2 h)
@[go_sem] theorem c1R (a : List c7) (k : Int) : a0W [(false, [.sl false [.s [], .i .i64 0, .s []] (a.map c7.cells)]), (false, [.i .i64 k])] = some ((0 ≤ k ∧ k + 3 * (a.length : Nat) ≤ 4611686018427387904) ∧ a = z5 a.length k, [], .one (false, [.i .i64 (k + 3 * (a.length : Nat))])) := f9 _ (by rintro ⟨_, _⟩ ⟨_, _⟩ h; simp at h; simp_all) (a, k)
theorem a8n : OkC Tryz.prog 127 a0W := i3 _
def a4G : ACode := q' ([z' 4 0]) (.seq (q' ([z' 5 0]) (.block 0 (.loop (.seq (q' ([m' 6 5, m' 7 0, n' 8 7, r' 9 6 8]) (.cond (.t 9) .skip (.exit 0))) (.seq (.block 1 (q' ([m' 12
 0, m' 13 5, i' 14 1 12 13, f' 15 0 14, l' 16 15, m' 17 1, c' 18 127 [16, 17], m' 1 18]) (q' ([m' 19 1, o' 20 (.bin .lss (.t 19) (k' 0))]) (.cond (.t 20) (q'
 ([o' 4 (.mov (.k (.v false [.c (.i .i64 (-1))])))]) .ret) .skip)))) (g' [m' 10 5, a' 11 10, m' 5 11])))))) (q' ([m' 21 1, m' 4 21]) .ret))
theorem b1U : cmp Tryz.prog Tryz.f54 = some a4G := by kernel_rfl
theorem b4d (a : List c8) (k : Int) (hpre : (0 ≤ k ∧ k + (i7 l5 a : Nat) ≤ 4611686018427387904) ∧ a = mkL p6 l5 a k) : A0m Tryz.prog 54 [(false, [.sl false [.sl false [.s [], .i .i64 0, .s []] []] (a.map (c8.cells false false))]), (false, [.i .i64 k])] [] (.one (false, [.i .i64 (k + (i7 l5 a : Nat))])) := by
 refine spec_of2 false false none Tryz.func54 b1U (rvs := [.t 4]) (hΓ := mkCtx_ok (deep := false) (l := [(127, [], a0W)]) ⟨a8n, trivial⟩) (h := ?_)
 intro hb hE
 simp only [go_sem] at hb
 simp only [a4G, x']
 (try refine A2Z ?_); simp only [go_sem]; (repeat' first | apply CJ.mk | intro hc); all_goals try ((repeat' first | apply And.intro | intro hs) <;> (try simp only [go_sem, Bool.and_eq_false_iff] at hs) <;> omega)
 refine aw_loop2 false [] [0] [] [] (fun i : {i : Nat // i ≤ a.length} => [(5, slV (.i .i64 i.1)), (1, slV (.i .i64 (k + (i7 l5 (a.take i.1) : Nat))))]) (fun i => []) (fun i => []) (fun i => a.length - i.1) (⟨0, by omega⟩) _ rfl ?_ ?_
 ·simp only [go_sem]
  all_goals first | omega | ((repeat' apply And.intro) <;> first | omega | rfl | skip)
 intro S0 hS0 i
 simp only [go_sem] at hS0
 obtain ⟨i, hi⟩ := i
 by_cases hil : (i : Int) < a.length
 ·have hx : a.getD i default = p6 (a.getD i default) (k + (i7 l5 (a.take i) : Nat)) := by
   have h1 := c8b p6 l5 default a k (show i < a.length by omega)
   rw [← hpre.2] at h1; exact h1
  have ht := j4 l5 default (show i < a.length by omega)
  have ht2 := p7 l5 a (i + 1)
  simp only [l5] at ht
  have hq0 := congrArg (fun z : c8 => z.Binds) hx
  (try refine A2Z ?_); simp only [go_sem, hS0, hil]; (repeat' first | apply CJ.mk | intro hc); all_goals try ((repeat' first | apply And.intro | intro hs) <;> (try simp only [go_sem, Bool.and_eq_false_iff] at hs) <;> omega)
  all_goals first
   | omega
   | (exfalso; simp at hc; done)
   | (exfalso; omega)
   | exact ⟨by omega, hq0⟩
   | ((refine lpK_n2 (⟨i + 1, by omega⟩) _ rfl ?_; simp only [go_sem, hS0, hil]; first | done | ((repeat' apply And.intro) <;> first | omega | (refine w64 ?_ ?_ ?_ <;> omega) | rfl | skip)); first | done | (simp only [ht]; omega) | trace_state)
   | trace_state
 ·(try refine A2Z ?_); simp only [go_sem, hS0, hil]; (repeat' first | apply CJ.mk | intro hc); all_goals try ((repeat' first | apply And.intro | intro hs) <;> (try simp only [go_sem, Bool.and_eq_false_iff] at hs) <;> omega)
  have h1 := a0r l5 (show ¬ i < a.length by omega)
  all_goals first | rw [h1] | trace_state
noncomputable def a1R : CT := l8 (fun (x : (List c8) × Int) h => b4d x.1 x.2 h)
@[go_sem] theorem c2K (a : List c8) (k : Int) : a1R [(false, [.sl false [.sl false [.s [], .i .i64 0, .s []] []] (a.map (c8.cells false false))]), (false, [.i .i64 k])] = some ((0 ≤ k ∧ k + (i7 l5 a : Nat) ≤ 4611686018427387904) ∧ a = mkL p6 l5 a k, [], .one (false, [.i .i64 (k + (i7 l5 a : Nat))])) := f9 _ (by rintro ⟨_, _⟩ ⟨_, _⟩ h; simp at h; simp_all) (a, k)
theorem a9l : OkC Tryz.prog 54 a1R := i3 _
theorem b8R : ∀ {l : List c8}, (∀ e ∈ l, e.Binds.length ≤ 164) → i7 l5 l ≤ 492 * l.length
 | [], _ => Nat.le_refl _
 | x :: l, h => by
   have h1 := h x List.mem_cons_self
   have h2 := b8R fun e he => h e (List.mem_cons_of_mem _ he)
   simp only [i7, l5, List.length_cons] at *
   omega
theorem a7T (x : c8) (k : Int) : l5 (p6 x k) = l5 x := by simp only [l5, p6, z6]
theorem c0q (x : c8) (k j : Int) : p6 (p6 x k) j = p6 x j := by simp only [p6, z6]
set_option maxHeartbeats 4000000
def a0S : ACode := q' ([o' 2 (.box 4 (.t 0)), o' 3 (.box 1 (.t 1)), b' 4 false]) (q' ([z' 5 1048576]) (q' ([e' 17 4 2, m' 18 5, c' 19 46 [17, 18], m' 5 19]) (.seq (q' ([m' 20 5,
 o' 21 (.bin .lss (.t 20) (k' 0))]) (.cond (.t 21) (q' ([b' 4 true]) .ret) .skip)) (q' ([e' 22 1 3, m' 23 5, c' 24 42 [22, 23], m' 5 24]) (.seq (q' ([m' 25 5,
 o' 26 (.bin .lss (.t 25) (k' 0))]) (.cond (.t 26) (q' ([b' 4 true]) .ret) .skip)) (.seq (.reg true [e' 28 4 2, c' 29 48 [28], e' 30 1 3, c' 31 44 [30], c' 32
 47 [29, 31], m' 27 32, o' 33 (.ext (.t 27) 0), o' 34 (.ext (.t 27) 1), m' 6 33, m' 7 34]) (q' ([e' 35 4 2, c' 36 48 [35], w' 8 [.i .i64, .s, .sl [.s [], .i
 .i64 0, .s []], .sl [.i .i64 0, .s [], .sl false [.s [], .i .i64 0, .s []] [], .i .i64 0, .s [], .i .i64 0, .s [], .s [], .i .i64 0, .s []]], s' 4 8 36]) (q'
 ([e' 37 1 3, c' 38 44 [37], w' 9 [.sl [.s [], .i .i64 0, .sl false [.sl false [.i .i64 0, .s []] []] []]], s' 1 9 38]) (q' ([e' 40 4 8, e' 41 1 9, c' 42 49
 [40, 41], m' 39 42, o' 43 (.ext (.t 39) 0), o' 44 (.ext (.t 39) 1), m' 10 43, m' 11 44]) (.seq (q' ([m' 45 10, m' 46 6, c' 47 50 [45, 46], o' 48 (.not (.t
 47)), m' 49 48, ⟨some 50, .mov (.t 11), some (49, false)⟩, ⟨some 51, .mov (.t 7), some (49, false)⟩, ⟨some 52, .binb .neq (.t 50) (.t 51), some (49, false)⟩,
 o' 53 (.pick (.t 49) (.k (.v false [.c (.b true)])) (.t 52))]) (.cond (.t 53) (q' ([b' 4 false]) .ret) .skip)) (.seq (.seq (.reg true [e' 54 4 8, e' 55 4 2,
 c' 56 48 [55], c' 57 51 [54, 56], o' 58 (.not (.t 57))]) (.cond (.t 58) (q' ([b' 4 false]) .ret) .skip)) (.seq (.seq (.reg true [e' 59 1 9, e' 60 1 3, c' 61
 44 [60], c' 62 16 [59, 61], o' 63 (.not (.t 62))]) (.cond (.t 63) (q' ([b' 4 false]) .ret) .skip)) (q' ([z' 12 1]) (q' ([e' 64 4 8, m' 65 12, c' 66 52 [64,
 65], m' 12 66]) (q' ([e' 67 1 9, m' 68 12, c' 69 19 [67, 68], m' 12 69]) (.seq (q' ([m' 70 12, o' 71 (.bin .lss (.t 70) (k' 0)), m' 72 71, ⟨some 73, .mov (.t
 10), some (72, false)⟩, ⟨some 74, .mov (.t 6), some (72, false)⟩, ⟨some 75, .call 50 [.t 73, .t 74], some (72, false)⟩, ⟨some 76, .not (.t 75), some (72,
 false)⟩, o' 77 (.pick (.t 72) (.k (.v false [.c (.b true)])) (.t 76)), m' 78 77, ⟨some 79, .mov (.t 11), some (78, false)⟩, ⟨some 80, .mov (.t 7), some (78,
 false)⟩, ⟨some 81, .binb .neq (.t 79) (.t 80), some (78, false)⟩, o' 82 (.pick (.t 78) (.k (.v false [.c (.b true)])) (.t 81))]) (.cond (.t 82) (q' ([b' 4
 false]) .ret) .skip)) (q' ([z' 13 1]) (q' ([m' 83 10, m' 84 13, c' 85 53 [83, 84], m' 13 85]) (q' ([z' 14 1]) (q' ([m' 86 10, m' 87 14, c' 88 54 [86, 87], m'
 14 88]) (.seq (q' ([m' 89 14, o' 90 (.bin .lss (.t 89) (k' 0))]) (.cond (.t 90) (q' ([b' 4 false]) .ret) .skip)) (.seq (q' ([m' 91 14, m' 92 13, o' 93 (.bin
 .neq (.t 91) (.t 92))]) (.cond (.t 93) (q' ([b' 4 false]) .ret) .skip)) (.seq (.reg true [e' 95 4 2, c' 96 48 [95], e' 97 1 3, c' 98 44 [97], c' 99 49 [96,
 98], m' 94 99, o' 100 (.ext (.t 94) 0), o' 101 (.ext (.t 94) 1), m' 15 100, m' 16 101]) (.seq (q' ([m' 102 15, m' 103 6, c' 104 50 [102, 103], o' 105 (.not
 (.t 104)), m' 106 105, ⟨some 107, .mov (.t 16), some (106, false)⟩, ⟨some 108, .mov (.t 7), some (106, false)⟩, ⟨some 109, .binb .neq (.t 107) (.t 108), some
 (106, false)⟩, o' 110 (.pick (.t 106) (.k (.v false [.c (.b true)])) (.t 109))]) (.cond (.t 110) (q' ([b' 4 false]) .ret) .skip)) (q' ([z' 14 1]) (q' ([m' 111
 10, m' 112 14, c' 113 54 [111, 112], m' 14 113]) (.seq (q' ([m' 114 14, o' 115 (.bin .lss (.t 114) (k' 0))]) (.cond (.t 115) (q' ([b' 4 false]) .ret) .skip))
 (.seq (q' ([m' 116 14, m' 117 13, o' 118 (.bin .neq (.t 116) (.t 117))]) (.cond (.t 118) (q' ([b' 4 false]) .ret) .skip)) (q' ([b' 4 true])
 .ret)))))))))))))))))))))))))))))
theorem a6K : cmp Tryz.prog Tryz.f10 = some a0S := by kernel_rfl
theorem a1F (r : d3) (s : d7) : A0m Tryz.prog 10 [(true, [.i .i64 r.Kind, .s r.Head.Name, .sl false [.s [], .i .i64 0, .s []] (r.Head.Args.map c4.cells), .sl false [.i .i64 0, .s [], .sl false [.s [], .i .i64 0, .s []] [], .i .i64 0, .s [], .i .i64 0, .s [], .s [], .i .i64 0, .s []] (r.Body.map (d4.cells false false))]), (true, [.sl false [.s [], .i .i64 0, .sl false [.sl false [.i .i64 0, .s []] []] []] (s.Rels.map (d6.cells false false))])] [] (.one (false, [.b true])) := by
 refine spec_of2 true false none Tryz.func10 a6K (rvs := [.t 4]) (hΓ := mkCtx_ok (deep := true) (l := [(46, [], a4l), (42, [], a3f), (48, [], a4o), (44, [], a3i), (47, [], a4p), (49, [], a3Y), (50, [], a4f), (51, [], a4i), (16, [], a3c), (52, [0], a1W), (19, [0], a0Y), (53, [0], a1T), (54, [], a1R)]) ⟨b1v, b0o, b1y, b0r, b1A, b1h, b1p, b1s, b0l, a9q, a8p, a9n, a9l, trivial⟩) (h := ?_)
 intro hb hE
 simp only [go_sem] at hb
 simp only [a0S, x']
 (try refine A2Z ?_); simp only [go_sem]; (repeat' first | apply CJ.mk | intro hc); all_goals try ((repeat' first | apply And.intro | intro hs) <;> (try simp only [go_sem, Bool.and_eq_false_iff] at hs) <;> omega)
 all_goals have h6 := b8R (b8N r s).2
 all_goals have h5 := (b8N r s).1
 all_goals have h7 := c6c r.Body
 all_goals have h8 := c0W s.Rels
 all_goals (try rw [b6S p6 l5 a7T] at hc)
 all_goals (try rw [b6S p6 l5 a7T])
 all_goals first
  | exact (hc trivial).elim
  | (exfalso; simp at hc; done)
  | (exfalso; rcases hc with h | h; · omega
     exact h trivial)
  | (simp only [szR, a3U, a0P, a1J] at *; omega)
  | (simp only [szR, a3U, a0P, a1J] at *; refine ⟨by omega, (c1z p6 l5 a7T c0q _ _ _).symm⟩)
  | trace_state
noncomputable def a7L : CT := j7 (fun (x : d3 × d7) => a1F x.1 x.2)
@[go_sem] theorem b8P (x0 : Int) (x1 : List UInt8) (x2 : List c4) (x3 : List d4) (x4 : List d6) : a7L [(true, [.i .i64 x0, .s x1, .sl false [.s [], .i .i64 0, .s []] (x2.map c4.cells), .sl false [.i .i64 0, .s [], .sl false [.s [], .i .i64 0, .s []] [], .i .i64 0, .s [], .i .i64 0, .s [], .s [], .i .i64 0, .s []] (x3.map (d4.cells false false))]), (true, [.sl false [.s [], .i .i64 0, .sl false [.sl false [.i .i64 0, .s []] []] []] (x4.map (d6.cells false false))])] = some (True, [], .one (false, [.b true])) := f7 _ (by rintro ⟨⟨_, ⟨_, _⟩, _⟩, ⟨_⟩⟩ ⟨⟨_, ⟨_, _⟩, _⟩, ⟨_⟩⟩ h; simp at h; simp_all) ((d3.mk x0 (d5.mk x1 x2) x3), (d7.mk x4))
end Go.Aw
