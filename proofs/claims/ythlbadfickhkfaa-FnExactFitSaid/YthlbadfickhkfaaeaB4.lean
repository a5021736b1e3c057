/- Stores and steps: sizes, copies, equalities. No condition. -/
import Derived.Test.YthlbadfickhkfaaeaB0
import Derived.Test.YthlbadfickhkfaaeaB2
namespace Go.Aw
open Go.Proofs
attribute [local irreducible] aft blk lpK retK AW A0l
set_option linter.unusedVariables false
set_option linter.unusedSimpArgs false
set_option maxRecDepth 100000
def a1Y (x : c9) : Nat := (x.V.length + o0 j8 x.V)
def a0x : ACode := q' ([z' 4 0]) (q' ([m' 6 1, m' 7 0, n' 8 7, o' 9 (.bin .sub (.t 6) (.t 8)), m' 1 9]) (.seq (q' ([m' 10 1, o' 11 (.bin .lss (.t 10) (k' 0))]) (.cond (.t 11) (q'
 ([o' 4 (.mov (.k (.v false [.c (.i .i64 (-1))])))]) .ret) .skip)) (.seq (q' ([z' 5 0]) (.block 0 (.loop (.seq (q' ([m' 12 5, m' 13 0, n' 14 13, r' 15 12 14])
 (.cond (.t 15) .skip (.exit 0))) (.seq (.block 1 (q' ([m' 18 0, m' 19 5, i' 20 2 18 19, e' 21 2 20, m' 22 1, c' 23 82 [21, 22], m' 1 23]) (q' ([m' 24 1, o' 25
 (.bin .lss (.t 24) (k' 0))]) (.cond (.t 25) (q' ([o' 4 (.mov (.k (.v false [.c (.i .i64 (-1))])))]) .ret) .skip)))) (g' [m' 16 5, a' 17 16, m' 5 17])))))) (q'
 ([m' 26 1, m' 4 26]) .ret))))
theorem a3S : cmp Try.prog Try.f48 = some a0x := by kernel_rfl
theorem a5a (a : List c6) (left : Int) (hpre : 0 ≤ left ∧ left ≤ 1048576) : A0l Try.prog 48 [(false, [.sl false [.i .i64 0, .s []] (a.map c6.cells)]), (false, [.i .i64 left])] [] (.one (false, [.i .i64 (szR left ((a.length + o0 j8 a) : Nat))])) := by
 refine spec_of2 false false none Try.func48 a3S (rvs := [.t 4]) (hΓ := mkCtx_ok (deep := false) (l := [(82, [], n0)]) ⟨p8, trivial⟩) (h := ?_)
 intro hb hE
 simp only [go_sem] at hb
 simp only [a0x, x']
 (try refine A2V ?_); simp only [go_sem]; (repeat' first | apply CJ.mk | intro hc); all_goals try ((repeat' first | apply And.intro | intro hs) <;> (try simp only [go_sem, Bool.and_eq_false_iff] at hs) <;> omega)
 ·all_goals ((repeat (simp (disch := omega) only [a0E] at *)) <;> (try simp only [szR, szR] at *) <;> (first | omega | (split <;> omega)))
 have hw := a0E (l := left) (n := a.length) (by omega) (by omega) (by omega) (by omega)
 rw [hw] at hc
 refine aw_loop2 false [] [0] [] [] (fun i : {i : Nat // i ≤ a.length ∧ (a.length : Int) + (o0 j8 (a.take i) : Nat) ≤ left} => [(5, slV (.i .i64 i.1)), (1, slV (.i .i64 (left - a.length - (o0 j8 (a.take i.1) : Nat))))]) (fun i => []) (fun i => []) (fun i => a.length - i.1) (⟨0, by simp only [List.take_zero, a3v]; omega⟩) _ rfl ?_ ?_
 ·simp only [go_sem, hw]
  all_goals first | omega | ((repeat' apply And.intro) <;> first | omega | rfl | skip)
 intro S0 hS0 i
 simp only [go_sem, hw] at hS0
 obtain ⟨i, hi, ht⟩ := i
 (try refine A2V ?_); simp only [go_sem, hw, hS0]; (repeat' first | apply CJ.mk | intro hc); all_goals try ((repeat' first | apply And.intro | intro hs) <;> (try simp only [go_sem, Bool.and_eq_false_iff] at hs) <;> omega)
 ·have h1 := l5 j8 (default : c6) (show i < a.length by omega)
  have h2 := a0X j8 a (i + 1)
  all_goals ((repeat (simp (disch := omega) only [a0E] at *)) <;> (try simp only [szR, szR] at *) <;> (first | omega | (split <;> omega)))
 ·have h1 := l5 j8 (default : c6) (show i < a.length by omega)
  (refine lpK_n2 (⟨i + 1, by omega, by unfold szR at hc; split at hc <;> omega⟩) _ rfl ?_; simp only [go_sem, hw, hS0]; first | done | ((repeat' apply And.intro) <;> first | omega | (refine w64 ?_ ?_ ?_ <;> omega) | rfl | skip))
  rw [h1]
  unfold szR at hc ⊢
  split at hc <;> omega
 ·have h1 := a6i j8 (show ¬ i < a.length by omega)
  all_goals ((repeat (simp (disch := omega) only [a0E] at *)) <;> (try simp only [szR, szR] at *) <;> (first | omega | (split <;> omega)))
 all_goals all_goals ((repeat (simp (disch := omega) only [a0E] at *)) <;> (try simp only [szR, szR] at *) <;> (first | omega | (split <;> omega)))
noncomputable def u5 : CT := s6 (fun (x : (List c6) × Int) h => a5a x.1 x.2 h)
@[go_sem] theorem a8U (a : List c6) (x0 : Int) : u5 [(false, [.sl false [.i .i64 0, .s []] (a.map c6.cells)]), (false, [.i .i64 x0])] = some (0 ≤ x0 ∧ x0 ≤ 1048576, [], .one (false, [.i .i64 (szR x0 ((a.length + o0 j8 a) : Nat))])) := i7 _ (by rintro ⟨_, _⟩ ⟨_, _⟩ h; simp at h; simp_all) (a, x0)
theorem a2H : OkC Try.prog 48 u5 := i8 _
def a2u : ACode := q' ([o' 2 (.box 1 (.t 0)), z' 4 0]) (q' ([f' 5 0 2, l' 6 5, m' 7 1, c' 8 48 [6, 7], m' 1 8]) (.seq (q' ([m' 9 1, o' 10 (.bin .lss (.t 9) (k' 0))]) (.cond (.t
 10) (q' ([o' 4 (.mov (.k (.v false [.c (.i .i64 (-1))])))]) .ret) .skip)) (q' ([m' 11 1, m' 4 11]) .ret)))
theorem a6A : cmp Try.prog Try.f13 = some a2u := by kernel_rfl
theorem a7F (a : c9) (left : Int) (hpre : 0 ≤ left ∧ left ≤ 1048576) : A0l Try.prog 13 [(true, [.sl false [.i .i64 0, .s []] (a.V.map c6.cells)]), (false, [.i .i64 left])] [] (.one (false, [.i .i64 (szR left (a1Y a : Nat))])) := by
 refine spec_of2 false false none Try.func13 a6A (rvs := [.t 4]) (hΓ := mkCtx_ok (deep := false) (l := [(48, [], u5)]) ⟨a2H, trivial⟩) (h := ?_)
 intro hb hE
 simp only [go_sem] at hb
 simp only [a2u, x']
 (try refine A2V ?_); simp only [go_sem]; (repeat' first | apply CJ.mk | intro hc); all_goals try ((repeat' first | apply And.intro | intro hs) <;> (try simp only [go_sem, Bool.and_eq_false_iff] at hs) <;> omega)
 all_goals ((repeat (simp (disch := omega) only [a0E] at *)) <;> (try simp only [szR, a1Y] at *) <;> (first | omega | (split <;> omega)))
noncomputable def a0P : CT := s6 (fun (x : c9 × Int) h => a7F x.1 x.2 h)
@[go_sem] theorem b0O (x0 : List c6) (x1 : Int) : a0P [(true, [.sl false [.i .i64 0, .s []] (x0.map c6.cells)]), (false, [.i .i64 x1])] = some (0 ≤ x1 ∧ x1 ≤ 1048576, [], .one (false, [.i .i64 (szR x1 (a1Y (c9.mk x0) : Nat))])) := i7 _ (by rintro ⟨⟨_⟩, _⟩ ⟨⟨_⟩, _⟩ h; simp at h; simp_all) ((c9.mk x0), x1)
theorem a4z : OkC Try.prog 13 a0P := i8 _
def a0y : ACode := q' ([o' 2 (.mov (.k (.v false [.nl [.i .i64 0, .s []]])))]) (q' ([m' 5 0, n' 6 5, o' 7 (.mks 2 24 [.i .i64, .s] (.t 6) (.t 6)), m' 3 7]) (.seq (q' ([z' 4 0])
 (.block 0 (.loop (.seq (q' ([m' 8 4, m' 9 0, n' 10 9, r' 11 8 10]) (.cond (.t 11) .skip (.exit 0))) (.seq (.block 1 (g' [m' 14 3, m' 15 4, m' 16 0, m' 17 4,
 i' 18 2 16 17, e' 19 2 18, c' 20 84 [19], i' 21 2 14 15, s' 2 21 20])) (g' [m' 12 4, a' 13 12, m' 4 13])))))) (q' ([m' 22 3, m' 2 22]) .ret)))
theorem a3T : cmp Try.prog Try.f51 = some a0y := by kernel_rfl
theorem a5b (a : List c6) (hpre : (((a.length + o0 j8 a) : Nat) : Int) ≤ 1048576) : A0l Try.prog 51 [(false, [.sl false [.i .i64 0, .s []] (a.map c6.cells)])] [] (.one (false, [.sl true [.i .i64 0, .s []] (a.map c6.cells)])) := by
 refine spec_of2 true false none Try.func51 a3T (rvs := [.t 2]) (hΓ := mkCtx_ok (deep := true) (l := [(84, [], n7)]) ⟨p9, trivial⟩) (h := ?_)
 intro hb hE
 simp only [go_sem] at hb
 simp only [a0y, x']
 (try refine A2V ?_); simp only [go_sem, w3]; (repeat' first | apply CJ.mk | intro hc); all_goals try ((repeat' first | apply And.intro | intro hs) <;> (try simp only [go_sem, Bool.and_eq_false_iff] at hs) <;> omega)
 refine aw_loop2 true [] [0, 3] [] [] (fun i : {p : Nat × (List c6) // p.1 ≤ a.length ∧ p.2.length = a.length ∧ p.2.take p.1 = a.take p.1} => [(4, slV (.i .i64 i.1.1))]) (fun i => []) (fun i => [(896, [.i .i64 0, .s []], i.1.2.map c6.cells)]) (fun i => a.length - i.1.1) (⟨(0, List.replicate a.length default), by simp⟩) _ rfl ?_ ?_
 ·simp only [go_sem, w3]
  all_goals first | omega | ((repeat' apply And.intro) <;> first | omega | rfl | skip)
 intro S0 hS0 i
 simp only [go_sem, w3] at hS0
 obtain ⟨⟨i, L⟩, hi, hl, ht⟩ := i
 simp only at hi hl ht
 (try refine A2V ?_); simp only [go_sem, w3, hS0]; (repeat' first | apply CJ.mk | intro hc); all_goals try ((repeat' first | apply And.intro | intro hs) <;> (try simp only [go_sem, Bool.and_eq_false_iff] at hs) <;> omega)
 ·(refine lpK_n2 (⟨(i + 1, L.set i (a.getD i default)), by simp only; omega, by simp [hl], l9 hl ht (by omega)⟩) _ rfl ?_; simp only [go_sem, w3, hS0]; first | done | ((repeat' apply And.intro) <;> first | omega | (refine w64 ?_ ?_ ?_ <;> omega) | rfl | skip))
 ·obtain rfl := l7 hl ht (by omega)
  rfl
 all_goals trace_state
noncomputable def u6 : CT := s6 (fun (x : (List c6)) h => a5b x h)
@[go_sem] theorem a8V (a : List c6) : u6 [(false, [.sl false [.i .i64 0, .s []] (a.map c6.cells)])] = some ((((a.length + o0 j8 a) : Nat) : Int) ≤ 1048576, [], .one (false, [.sl true [.i .i64 0, .s []] (a.map c6.cells)])) := i7 _ (by intro x y h; simp at h; simp_all) a
theorem a2I : OkC Try.prog 51 u6 := i8 _
def a2w : ACode := q' ([o' 1 (.box 1 (.t 0)), w' 2 [.sl [.i .i64 0, .s []]]]) (q' ([w' 3 [.sl [.i .i64 0, .s []]]]) (q' ([f' 4 0 1, l' 5 4, c' 6 51 [5], f' 7 0 3, s' 1 7 6]) (q'
 ([e' 8 1 3, s' 1 2 8]) .ret)))
theorem a6C : cmp Try.prog Try.f16 = some a2w := by kernel_rfl
theorem a7H (a : c9) (hpre : (a1Y a : Int) ≤ 1048576) : A0l Try.prog 16 [(true, [.sl false [.i .i64 0, .s []] (a.V.map c6.cells)])] [] (.one (true, [.sl true [.i .i64 0, .s []] (a.V.map c6.cells)])) := by
 refine spec_of2 true false none Try.func16 a6C (rvs := [.c 2 true 1]) (hΓ := mkCtx_ok (deep := true) (l := [(51, [], u6)]) ⟨a2I, trivial⟩) (h := ?_)
 intro hb hE
 simp only [go_sem] at hb
 simp only [a2w, x']
 (try refine A2V ?_); simp only [go_sem]; (repeat' first | apply CJ.mk | intro hc); all_goals try ((repeat' first | apply And.intro | intro hs) <;> (try simp only [go_sem, Bool.and_eq_false_iff] at hs) <;> omega)
 all_goals (simp only [a1Y] at *; omega)
noncomputable def a0R : CT := s6 (fun (x : c9) h => a7H x h)
@[go_sem] theorem b0Q (x0 : List c6) : a0R [(true, [.sl false [.i .i64 0, .s []] (x0.map c6.cells)])] = some ((a1Y (c9.mk x0) : Int) ≤ 1048576, [], .one (true, [.sl true [.i .i64 0, .s []] (((c9.mk x0).V).map c6.cells)])) := i7 _ (by rintro ⟨_⟩ ⟨_⟩ h; simp at h; simp_all) (c9.mk x0)
theorem a4B : OkC Try.prog 16 a0R := i8 _
end Go.Aw
