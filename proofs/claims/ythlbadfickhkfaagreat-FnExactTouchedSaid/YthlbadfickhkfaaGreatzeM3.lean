/- Marked lists of numbers, texts, acts. No condition. -/
import Derived.Test.YthlbadfickhkfaaGreatzeM1
import Derived.Test.YthlbadfickhkfaaGreathBwtze
namespace Go.Aw
open Go.Proofs
attribute [local irreducible] aft blk lpK retK AW A0l
set_option linter.unusedVariables false
set_option linter.unusedSimpArgs false
set_option maxRecDepth 100000
def a4Q (k : Int) : (List UInt8) := (a3M k)
def a0B (n : Nat) (k : Int) : List (List UInt8) := (List.range n).map fun i : Nat => a4Q (k + 1 * (i : Int))
theorem u5 (n : Nat) (k : Int) : (a0B n k).length = n := by simp [a0B]
theorem a8w (n : Nat) (k : Int) {i : Nat} (h : i < n) : (a0B n k).getD i [] = a4Q (k + 1 * (i : Int)) := by
 rw [List.getD_eq_getElem?_getD, a0B, List.getElem?_map, List.getElem?_range h]
 rfl
def a1Y : ACode := q' ([z' 4 0]) (.seq (q' ([z' 5 0]) (.block 0 (.loop (.seq (q' ([m' 6 5, m' 7 0, n' 8 7, r' 9 6 8]) (.cond (.t 9) .skip (.exit 0))) (.seq (.block 1 (q' ([m' 12
 0, m' 13 5, m' 14 1, c' 15 85 [14], i' 16 1 12 13, s' 1 16 15]) (g' [m' 17 1, a' 18 17, m' 1 18]))) (g' [m' 10 5, a' 11 10, m' 5 11])))))) (q' ([m' 19 1, m' 4
 19]) .ret))
theorem a8f : cmp Tryz.prog Tryz.f40 = some a1Y := by kernel_rfl
theorem a9c (a : List (List UInt8)) (k : Int) (hpre : 0 ≤ k ∧ k + 1 * (a.length : Nat) ≤ 4611686018427387904) : A0l Tryz.prog 40 [(false, [.sl true [.s []] (a.map g8)]), (false, [.i .i64 k])] [(0, (false, [.sl true [.s []] ((a0B a.length k).map g8)]))] (.one (false, [.i .i64 (k + 1 * (a.length : Nat))])) := by
 refine spec_of2 true false (some 0) Tryz.func40 a8f (rvs := [.t 4]) (hΓ := mkCtx_ok (deep := true) (l := [(85, [], n0)]) ⟨n7, trivial⟩) (h := ?_)
 intro hb hE
 simp only [go_sem] at hb
 simp only [a1Y, x']
 (try refine A2V ?_); simp only [go_sem]; (repeat' first | apply CJ.mk | intro hc); all_goals try ((repeat' first | apply And.intro | intro hs) <;> (try simp only [go_sem, Bool.and_eq_false_iff] at hs) <;> omega)
 refine aw_loop2 true [] [0] [] [] (fun i : {p : Nat × (List (List UInt8)) // p.1 ≤ a.length ∧ p.2.length = a.length ∧ p.2.take p.1 = (a0B a.length k).take p.1} => [(5, slV (.i .i64 i.1.1)), (1, slV (.i .i64 (k + 1 * (i.1.1 : Int))))]) (fun i => []) (fun i => [(1, [.s []], i.1.2.map g8)]) (fun i => a.length - i.1.1) (⟨(0, a), by simp⟩) _ rfl ?_ ?_
 ·simp only [go_sem]
  all_goals first | omega | ((repeat' apply And.intro) <;> first | omega | rfl | skip)
 intro S0 hS0 i
 simp only [go_sem] at hS0
 obtain ⟨⟨i, L⟩, hi, hl, ht⟩ := i
 simp only at hi hl ht
 by_cases hil : (i : Int) < L.length
 ·have hgs : ∀ x, (L.set i x).getD i [] = x := fun x => by rw [List.getD_eq_getElem?_getD, List.getElem?_set_self (by omega)]; rfl
  have hss : ∀ x y, (L.set i x).set i y = L.set i y := fun x y => List.set_set ..
  have hw0 : IntKind.i64.wrap (k + 1 * (i : Int) + 1) = k + 1 * (i : Int) + 1 := w64 (by omega) (by omega) (by omega)
  (try refine A2V ?_); simp only [go_sem, hS0, hgs, hss, hil, hw0]; (repeat' first | apply CJ.mk | intro hc); all_goals try ((repeat' first | apply And.intro | intro hs) <;> (try simp only [go_sem, Bool.and_eq_false_iff] at hs) <;> omega)
  (refine lpK_n2 (⟨(i + 1, L.set i (a4Q (k + 1 * (i : Int)))), by simp only; omega, by simp [hl], by rw [← a8w a.length k (show i < a.length by omega)]; exact p5 (by rw [hl, u5]) ht (by rw [u5]; omega)⟩) _ rfl ?_; simp only [go_sem, hS0, hgs, hss, hil, hw0]; first | done | ((repeat' apply And.intro) <;> first | omega | (refine w64 ?_ ?_ ?_ <;> omega) | rfl | skip))
  ·exact (hc trivial).elim
 ·(try refine A2V ?_); simp only [go_sem, hS0, hil]; (repeat' first | apply CJ.mk | intro hc); all_goals try ((repeat' first | apply And.intro | intro hs) <;> (try simp only [go_sem, Bool.and_eq_false_iff] at hs) <;> omega)
  obtain rfl : i = a.length := by omega
  obtain rfl := o0 (by rw [hl, u5]) ht (by rw [u5]; omega)
  exact ⟨rfl, rfl⟩
noncomputable def a0k : CT := p4 (fun (x : (List (List UInt8)) × Int) h => a9c x.1 x.2 h)
@[go_sem] theorem b8s (a : List (List UInt8)) (k : Int) : a0k [(false, [.sl true [.s []] (a.map g8)]), (false, [.i .i64 k])] = some (0 ≤ k ∧ k + 1 * (a.length : Nat) ≤ 4611686018427387904, [(0, (false, [.sl true [.s []] ((a0B a.length k).map g8)]))], .one (false, [.i .i64 (k + 1 * (a.length : Nat))])) := i6 _ (by rintro ⟨_, _⟩ ⟨_, _⟩ h; simp at h; simp_all) (a, k)
theorem a6n : OkC Tryz.prog 40 a0k := i7 _
def a1W : ACode := q' ([z' 4 0]) (.seq (q' ([z' 5 0]) (.block 0 (.loop (.seq (q' ([m' 6 5, m' 7 0, n' 8 7, r' 9 6 8]) (.cond (.t 9) .skip (.exit 0))) (.seq (.block 1 (.seq (.seq
 (.reg true [m' 12 0, m' 13 5, i' 14 1 12 13, l' 15 14, m' 16 1, c' 17 85 [16], o' 18 (.bin .neq (.t 15) (.t 17))]) (.cond (.t 18) (q' ([o' 4 (.mov (.k (.v
 false [.c (.i .i64 (-1))])))]) .ret) .skip)) (g' [m' 19 1, a' 20 19, m' 1 20]))) (g' [m' 10 5, a' 11 10, m' 5 11])))))) (q' ([m' 21 1, m' 4 21]) .ret))
theorem a8d : cmp Tryz.prog Tryz.f41 = some a1W := by kernel_rfl
theorem a9a (a : List (List UInt8)) (k : Int) (hpre : (0 ≤ k ∧ k + 1 * (a.length : Nat) ≤ 4611686018427387904) ∧ a = a0B a.length k) : A0l Tryz.prog 41 [(false, [.sl false [.s []] (a.map g8)]), (false, [.i .i64 k])] [] (.one (false, [.i .i64 (k + 1 * (a.length : Nat))])) := by
 refine spec_of2 false false none Tryz.func41 a8d (rvs := [.t 4]) (hΓ := mkCtx_ok (deep := false) (l := [(85, [], n0)]) ⟨n7, trivial⟩) (h := ?_)
 intro hb hE
 simp only [go_sem] at hb
 simp only [a1W, x']
 (try refine A2V ?_); simp only [go_sem]; (repeat' first | apply CJ.mk | intro hc); all_goals try ((repeat' first | apply And.intro | intro hs) <;> (try simp only [go_sem, Bool.and_eq_false_iff] at hs) <;> omega)
 refine aw_loop2 false [] [0] [] [] (fun i : {i : Nat // i ≤ a.length} => [(5, slV (.i .i64 i.1)), (1, slV (.i .i64 (k + 1 * (i.1 : Int))))]) (fun i => []) (fun i => []) (fun i => a.length - i.1) (⟨0, by omega⟩) _ rfl ?_ ?_
 ·simp only [go_sem]
  all_goals first | omega | ((repeat' apply And.intro) <;> first | omega | rfl | skip)
 intro S0 hS0 i
 simp only [go_sem] at hS0
 obtain ⟨i, hi⟩ := i
 by_cases hil : (i : Int) < a.length
 ·have hx : a.getD i [] = a4Q (k + 1 * (i : Int)) := by rw [hpre.2]; exact a8w _ _ (by omega)
  have hw0 : IntKind.i64.wrap (k + 1 * (i : Int) + 1) = k + 1 * (i : Int) + 1 := w64 (by omega) (by omega) (by omega)
  (try refine A2V ?_); simp only [go_sem, hS0, hil, hx, a4Q, hw0]; (repeat' first | apply CJ.mk | intro hc); all_goals try ((repeat' first | apply And.intro | intro hs) <;> (try simp only [go_sem, Bool.and_eq_false_iff] at hs) <;> omega)
  all_goals first
   | (exfalso; simp at hc; done)
   | ((refine lpK_n2 (⟨i + 1, by omega⟩) _ rfl ?_; simp only [go_sem, hS0, hil, hx, a4Q, hw0]; first | done | ((repeat' apply And.intro) <;> first | omega | (refine w64 ?_ ?_ ?_ <;> omega) | rfl | skip)); done)
   | trace_state
 ·(try refine A2V ?_); simp only [go_sem, hS0, hil]; (repeat' first | apply CJ.mk | intro hc); all_goals try ((repeat' first | apply And.intro | intro hs) <;> (try simp only [go_sem, Bool.and_eq_false_iff] at hs) <;> omega)
  all_goals (obtain rfl : i = a.length := by omega)
  all_goals rfl
noncomputable def a0i : CT := p4 (fun (x : (List (List UInt8)) × Int) h => a9a x.1 x.2 h)
@[go_sem] theorem b8q (a : List (List UInt8)) (k : Int) : a0i [(false, [.sl false [.s []] (a.map g8)]), (false, [.i .i64 k])] = some ((0 ≤ k ∧ k + 1 * (a.length : Nat) ≤ 4611686018427387904) ∧ a = a0B a.length k, [], .one (false, [.i .i64 (k + 1 * (a.length : Nat))])) := i6 _ (by rintro ⟨_, _⟩ ⟨_, _⟩ h; simp at h; simp_all) (a, k)
theorem a6l : OkC Tryz.prog 41 a0i := i7 _
end Go.Aw
