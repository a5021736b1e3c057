/- Environments: sizes, copies, equalities. No condition. -/
import Derived.Test.YthlbadfickhkfaaeaG1
import Derived.Test.YthlbadfickhkfaaiBwtea
namespace Go.Aw
open Go.Proofs
attribute [local irreducible] aft blk lpK retK AW A0l
set_option linter.unusedVariables false
set_option linter.unusedSimpArgs false
set_option maxRecDepth 100000
def j8 (x : c6) : Nat := x.S.length
def m7 (x : c4) : Nat := x.Var.length + j8 x.Val
def a1X (x : c8) : Nat := (x.Binds.length + o0 m7 x.Binds)
def a1l : ACode := q' ([o' 2 (.box 2 (.t 0)), z' 4 0]) (q' ([m' 5 1, f' 6 1 2, l' 7 6, o' 8 (.lens (.t 7)), o' 9 (.bin .sub (.t 5) (.t 8)), m' 1 9]) (.seq (q' ([m' 10 1, o' 11
 (.bin .lss (.t 10) (k' 0))]) (.cond (.t 11) (q' ([o' 4 (.mov (.k (.v false [.c (.i .i64 (-1))])))]) .ret) .skip)) (q' ([m' 12 1, m' 4 12]) .ret)))
theorem a4R : cmp Try.prog Try.f82 = some a1l := by kernel_rfl
theorem a5Z (a : c6) (left : Int) (hpre : 0 ≤ left ∧ left ≤ 1048576) : A0l Try.prog 82 [(true, [.i .i64 a.N, .s a.S]), (false, [.i .i64 left])] [] (.one (false, [.i .i64 (szR left (j8 a : Nat))])) := by
 refine spec_of2 false false none Try.func82 a4R (rvs := [.t 4]) (hΓ := mkCtx_ok (deep := false) (l := []) trivial) (h := ?_)
 intro hb hE
 simp only [go_sem] at hb
 simp only [a1l, x']
 (try refine A2V ?_); simp only [go_sem]; (repeat' first | apply CJ.mk | intro hc); all_goals try ((repeat' first | apply And.intro | intro hs) <;> (try simp only [go_sem, Bool.and_eq_false_iff] at hs) <;> omega)
 all_goals ((repeat (simp (disch := omega) only [a0E] at *)) <;> (try simp only [szR, j8] at *) <;> (first | omega | (split <;> omega)))
noncomputable def n0 : CT := s6 (fun (x : c6 × Int) h => a5Z x.1 x.2 h)
@[go_sem] theorem a9x (x0 : Int) (x1 : List UInt8) (x2 : Int) : n0 [(true, [.i .i64 x0, .s x1]), (false, [.i .i64 x2])] = some (0 ≤ x2 ∧ x2 ≤ 1048576, [], .one (false, [.i .i64 (szR x2 (j8 (c6.mk x0 x1) : Nat))])) := i7 _ (by rintro ⟨⟨_, _⟩, _⟩ ⟨⟨_, _⟩, _⟩ h; simp at h; simp_all) ((c6.mk x0 x1), x2)
theorem p8 : OkC Try.prog 82 n0 := i8 _
def a1A : ACode := q' ([o' 2 (.box 3 (.t 0)), z' 4 0]) (q' ([m' 5 1, f' 6 0 2, l' 7 6, o' 8 (.lens (.t 7)), o' 9 (.bin .sub (.t 5) (.t 8)), m' 1 9]) (.seq (q' ([m' 10 1, o' 11
 (.bin .lss (.t 10) (k' 0))]) (.cond (.t 11) (q' ([o' 4 (.mov (.k (.v false [.c (.i .i64 (-1))])))]) .ret) .skip)) (q' ([f' 12 1 2, e' 13 2 12, m' 14 1, c' 15
 82 [13, 14], m' 1 15]) (.seq (q' ([m' 16 1, o' 17 (.bin .lss (.t 16) (k' 0))]) (.cond (.t 17) (q' ([o' 4 (.mov (.k (.v false [.c (.i .i64 (-1))])))]) .ret)
 .skip)) (q' ([m' 18 1, m' 4 18]) .ret)))))
theorem a5A : cmp Try.prog Try.f81 = some a1A := by kernel_rfl
theorem a6M (a : c4) (left : Int) (hpre : 0 ≤ left ∧ left ≤ 1048576) : A0l Try.prog 81 [(true, [.s a.Var, .i .i64 a.Val.N, .s a.Val.S]), (false, [.i .i64 left])] [] (.one (false, [.i .i64 (szR left (m7 a : Nat))])) := by
 refine spec_of2 false false none Try.func81 a5A (rvs := [.t 4]) (hΓ := mkCtx_ok (deep := false) (l := [(82, [], n0)]) ⟨p8, trivial⟩) (h := ?_)
 intro hb hE
 simp only [go_sem] at hb
 simp only [a1A, x']
 (try refine A2V ?_); simp only [go_sem]; (repeat' first | apply CJ.mk | intro hc); all_goals try ((repeat' first | apply And.intro | intro hs) <;> (try simp only [go_sem, Bool.and_eq_false_iff] at hs) <;> omega)
 all_goals ((repeat (simp (disch := omega) only [a0E] at *)) <;> (try simp only [szR, m7] at *) <;> (first | omega | (split <;> omega)))
noncomputable def a0h : CT := s6 (fun (x : c4 × Int) h => a6M x.1 x.2 h)
@[go_sem] theorem b0m (x0 : List UInt8) (x1 : Int) (x2 : List UInt8) (x3 : Int) : a0h [(true, [.s x0, .i .i64 x1, .s x2]), (false, [.i .i64 x3])] = some (0 ≤ x3 ∧ x3 ≤ 1048576, [], .one (false, [.i .i64 (szR x3 (m7 (c4.mk x0 (c6.mk x1 x2)) : Nat))])) := i7 _ (by rintro ⟨⟨_, ⟨_, _⟩⟩, _⟩ ⟨⟨_, ⟨_, _⟩⟩, _⟩ h; simp at h; simp_all) ((c4.mk x0 (c6.mk x1 x2)), x3)
theorem a3E : OkC Try.prog 81 a0h := i8 _
def a1j : ACode := q' ([z' 4 0]) (q' ([m' 6 1, m' 7 0, n' 8 7, o' 9 (.bin .sub (.t 6) (.t 8)), m' 1 9]) (.seq (q' ([m' 10 1, o' 11 (.bin .lss (.t 10) (k' 0))]) (.cond (.t 11) (q'
 ([o' 4 (.mov (.k (.v false [.c (.i .i64 (-1))])))]) .ret) .skip)) (.seq (q' ([z' 5 0]) (.block 0 (.loop (.seq (q' ([m' 12 5, m' 13 0, n' 14 13, r' 15 12 14])
 (.cond (.t 15) .skip (.exit 0))) (.seq (.block 1 (q' ([m' 18 0, m' 19 5, i' 20 3 18 19, e' 21 3 20, m' 22 1, c' 23 81 [21, 22], m' 1 23]) (q' ([m' 24 1, o' 25
 (.bin .lss (.t 24) (k' 0))]) (.cond (.t 25) (q' ([o' 4 (.mov (.k (.v false [.c (.i .i64 (-1))])))]) .ret) .skip)))) (g' [m' 16 5, a' 17 16, m' 5 17])))))) (q'
 ([m' 26 1, m' 4 26]) .ret))))
theorem a4P : cmp Try.prog Try.f46 = some a1j := by kernel_rfl
theorem a5X (a : List c4) (left : Int) (hpre : 0 ≤ left ∧ left ≤ 1048576) : A0l Try.prog 46 [(false, [.sl false [.s [], .i .i64 0, .s []] (a.map c4.cells)]), (false, [.i .i64 left])] [] (.one (false, [.i .i64 (szR left ((a.length + o0 m7 a) : Nat))])) := by
 refine spec_of2 false false none Try.func46 a4P (rvs := [.t 4]) (hΓ := mkCtx_ok (deep := false) (l := [(81, [], a0h)]) ⟨a3E, trivial⟩) (h := ?_)
 intro hb hE
 simp only [go_sem] at hb
 simp only [a1j, x']
 (try refine A2V ?_); simp only [go_sem]; (repeat' first | apply CJ.mk | intro hc); all_goals try ((repeat' first | apply And.intro | intro hs) <;> (try simp only [go_sem, Bool.and_eq_false_iff] at hs) <;> omega)
 ·all_goals ((repeat (simp (disch := omega) only [a0E] at *)) <;> (try simp only [szR, szR] at *) <;> (first | omega | (split <;> omega)))
 have hw := a0E (l := left) (n := a.length) (by omega) (by omega) (by omega) (by omega)
 rw [hw] at hc
 refine aw_loop2 false [] [0] [] [] (fun i : {i : Nat // i ≤ a.length ∧ (a.length : Int) + (o0 m7 (a.take i) : Nat) ≤ left} => [(5, slV (.i .i64 i.1)), (1, slV (.i .i64 (left - a.length - (o0 m7 (a.take i.1) : Nat))))]) (fun i => []) (fun i => []) (fun i => a.length - i.1) (⟨0, by simp only [List.take_zero, a3v]; omega⟩) _ rfl ?_ ?_
 ·simp only [go_sem, hw]
  all_goals first | omega | ((repeat' apply And.intro) <;> first | omega | rfl | skip)
 intro S0 hS0 i
 simp only [go_sem, hw] at hS0
 obtain ⟨i, hi, ht⟩ := i
 (try refine A2V ?_); simp only [go_sem, hw, hS0]; (repeat' first | apply CJ.mk | intro hc); all_goals try ((repeat' first | apply And.intro | intro hs) <;> (try simp only [go_sem, Bool.and_eq_false_iff] at hs) <;> omega)
 ·have h1 := l5 m7 (default : c4) (show i < a.length by omega)
  have h2 := a0X m7 a (i + 1)
  all_goals ((repeat (simp (disch := omega) only [a0E] at *)) <;> (try simp only [szR, szR] at *) <;> (first | omega | (split <;> omega)))
 ·have h1 := l5 m7 (default : c4) (show i < a.length by omega)
  (refine lpK_n2 (⟨i + 1, by omega, by unfold szR at hc; split at hc <;> omega⟩) _ rfl ?_; simp only [go_sem, hw, hS0]; first | done | ((repeat' apply And.intro) <;> first | omega | (refine w64 ?_ ?_ ?_ <;> omega) | rfl | skip))
  rw [h1]
  unfold szR at hc ⊢
  split at hc <;> omega
 ·have h1 := a6i m7 (show ¬ i < a.length by omega)
  all_goals ((repeat (simp (disch := omega) only [a0E] at *)) <;> (try simp only [szR, szR] at *) <;> (first | omega | (split <;> omega)))
 all_goals all_goals ((repeat (simp (disch := omega) only [a0E] at *)) <;> (try simp only [szR, szR] at *) <;> (first | omega | (split <;> omega)))
noncomputable def y4 : CT := s6 (fun (x : (List c4) × Int) h => a5X x.1 x.2 h)
@[go_sem] theorem a9v (a : List c4) (x0 : Int) : y4 [(false, [.sl false [.s [], .i .i64 0, .s []] (a.map c4.cells)]), (false, [.i .i64 x0])] = some (0 ≤ x0 ∧ x0 ≤ 1048576, [], .one (false, [.i .i64 (szR x0 ((a.length + o0 m7 a) : Nat))])) := i7 _ (by rintro ⟨_, _⟩ ⟨_, _⟩ h; simp at h; simp_all) (a, x0)
theorem a3i : OkC Try.prog 46 y4 := i8 _
def a2t : ACode := q' ([o' 2 (.box 1 (.t 0)), z' 4 0]) (q' ([f' 5 0 2, l' 6 5, m' 7 1, c' 8 46 [6, 7], m' 1 8]) (.seq (q' ([m' 9 1, o' 10 (.bin .lss (.t 9) (k' 0))]) (.cond (.t
 10) (q' ([o' 4 (.mov (.k (.v false [.c (.i .i64 (-1))])))]) .ret) .skip)) (q' ([m' 11 1, m' 4 11]) .ret)))
theorem a6z : cmp Try.prog Try.f11 = some a2t := by kernel_rfl
theorem a7E (a : c8) (left : Int) (hpre : 0 ≤ left ∧ left ≤ 1048576) : A0l Try.prog 11 [(true, [.sl false [.s [], .i .i64 0, .s []] (a.Binds.map c4.cells)]), (false, [.i .i64 left])] [] (.one (false, [.i .i64 (szR left (a1X a : Nat))])) := by
 refine spec_of2 false false none Try.func11 a6z (rvs := [.t 4]) (hΓ := mkCtx_ok (deep := false) (l := [(46, [], y4)]) ⟨a3i, trivial⟩) (h := ?_)
 intro hb hE
 simp only [go_sem] at hb
 simp only [a2t, x']
 (try refine A2V ?_); simp only [go_sem]; (repeat' first | apply CJ.mk | intro hc); all_goals try ((repeat' first | apply And.intro | intro hs) <;> (try simp only [go_sem, Bool.and_eq_false_iff] at hs) <;> omega)
 all_goals ((repeat (simp (disch := omega) only [a0E] at *)) <;> (try simp only [szR, a1X] at *) <;> (first | omega | (split <;> omega)))
noncomputable def a0O : CT := s6 (fun (x : c8 × Int) h => a7E x.1 x.2 h)
@[go_sem] theorem b0N (x0 : List c4) (x1 : Int) : a0O [(true, [.sl false [.s [], .i .i64 0, .s []] (x0.map c4.cells)]), (false, [.i .i64 x1])] = some (0 ≤ x1 ∧ x1 ≤ 1048576, [], .one (false, [.i .i64 (szR x1 (a1X (c8.mk x0) : Nat))])) := i7 _ (by rintro ⟨⟨_⟩, _⟩ ⟨⟨_⟩, _⟩ h; simp at h; simp_all) ((c8.mk x0), x1)
theorem a4y : OkC Try.prog 11 a0O := i8 _
def a1o : ACode := q' ([o' 1 (.box 2 (.t 0)), w' 2 [.i .i64, .s]]) (q' ([w' 3 [.i .i64, .s]]) (q' ([f' 4 0 1, l' 5 4, f' 6 0 3, s' 1 6 5]) (q' ([f' 7 1 1, l' 8 7, f' 9 1 3, s' 1 9
 8]) (q' ([e' 10 2 3, s' 2 2 10]) .ret))))
theorem a4U : cmp Try.prog Try.f84 = some a1o := by kernel_rfl
theorem a6c (a : c6) : A0l Try.prog 84 [(true, [.i .i64 a.N, .s a.S])] [] (.one (true, [.i .i64 a.N, .s a.S])) := by
 refine spec_of2 true false none Try.func84 a4U (rvs := [.c 2 true 2]) (hΓ := mkCtx_ok (deep := true) (l := []) trivial) (h := ?_)
 intro hb hE
 simp only [go_sem] at hb
 simp only [a1o, x']
 (try refine A2V ?_); simp only [go_sem]; (repeat' first | apply CJ.mk | intro hc); all_goals try ((repeat' first | apply And.intro | intro hs) <;> (try simp only [go_sem, Bool.and_eq_false_iff] at hs) <;> omega)
noncomputable def n7 : CT := j9 (fun (x : c6) => a6c x)
@[go_sem] theorem a9A (x0 : Int) (x1 : List UInt8) : n7 [(true, [.i .i64 x0, .s x1])] = some (True, [], .one (true, [.i .i64 ((c6.mk x0 x1).N), .s ((c6.mk x0 x1).S)])) := f5 _ (by rintro ⟨_, _⟩ ⟨_, _⟩ h; simp at h; simp_all) (c6.mk x0 x1)
theorem p9 : OkC Try.prog 84 n7 := f8 _
def a1C : ACode := q' ([o' 1 (.box 3 (.t 0)), w' 2 [.s, .i .i64, .s]]) (q' ([w' 3 [.s, .i .i64, .s]]) (q' ([f' 4 0 1, l' 5 4, f' 6 0 3, s' 1 6 5]) (q' ([f' 7 1 1, e' 8 2 7, c' 9
 84 [8], f' 10 1 3, s' 2 10 9]) (q' ([e' 11 3 3, s' 3 2 11]) .ret))))
theorem a5C : cmp Try.prog Try.f83 = some a1C := by kernel_rfl
theorem a6O (a : c4) : A0l Try.prog 83 [(true, [.s a.Var, .i .i64 a.Val.N, .s a.Val.S])] [] (.one (true, [.s a.Var, .i .i64 a.Val.N, .s a.Val.S])) := by
 refine spec_of2 true false none Try.func83 a5C (rvs := [.c 2 true 3]) (hΓ := mkCtx_ok (deep := true) (l := [(84, [], n7)]) ⟨p9, trivial⟩) (h := ?_)
 intro hb hE
 simp only [go_sem] at hb
 simp only [a1C, x']
 (try refine A2V ?_); simp only [go_sem]; (repeat' first | apply CJ.mk | intro hc); all_goals try ((repeat' first | apply And.intro | intro hs) <;> (try simp only [go_sem, Bool.and_eq_false_iff] at hs) <;> omega)
noncomputable def a0j : CT := j9 (fun (x : c4) => a6O x)
@[go_sem] theorem b0o (x0 : List UInt8) (x1 : Int) (x2 : List UInt8) : a0j [(true, [.s x0, .i .i64 x1, .s x2])] = some (True, [], .one (true, [.s ((c4.mk x0 (c6.mk x1 x2)).Var), .i .i64 (((c4.mk x0 (c6.mk x1 x2)).Val).N), .s (((c4.mk x0 (c6.mk x1 x2)).Val).S)])) := f5 _ (by rintro ⟨_, ⟨_, _⟩⟩ ⟨_, ⟨_, _⟩⟩ h; simp at h; simp_all) (c4.mk x0 (c6.mk x1 x2))
theorem a3G : OkC Try.prog 83 a0j := f8 _
def a1m : ACode := q' ([o' 2 (.mov (.k (.v false [.nl [.s [], .i .i64 0, .s []]])))]) (q' ([m' 5 0, n' 6 5, o' 7 (.mks 3 40 [.s, .i .i64, .s] (.t 6) (.t 6)), m' 3 7]) (.seq (q'
 ([z' 4 0]) (.block 0 (.loop (.seq (q' ([m' 8 4, m' 9 0, n' 10 9, r' 11 8 10]) (.cond (.t 11) .skip (.exit 0))) (.seq (.block 1 (g' [m' 14 3, m' 15 4, m' 16 0,
 m' 17 4, i' 18 3 16 17, e' 19 3 18, c' 20 83 [19], i' 21 3 14 15, s' 3 21 20])) (g' [m' 12 4, a' 13 12, m' 4 13])))))) (q' ([m' 22 3, m' 2 22]) .ret)))
theorem a4S : cmp Try.prog Try.f49 = some a1m := by kernel_rfl
theorem a6a (a : List c4) (hpre : (((a.length + o0 m7 a) : Nat) : Int) ≤ 1048576) : A0l Try.prog 49 [(false, [.sl false [.s [], .i .i64 0, .s []] (a.map c4.cells)])] [] (.one (false, [.sl true [.s [], .i .i64 0, .s []] (a.map c4.cells)])) := by
 refine spec_of2 true false none Try.func49 a4S (rvs := [.t 2]) (hΓ := mkCtx_ok (deep := true) (l := [(83, [], a0j)]) ⟨a3G, trivial⟩) (h := ?_)
 intro hb hE
 simp only [go_sem] at hb
 simp only [a1m, x']
 (try refine A2V ?_); simp only [go_sem, a0r]; (repeat' first | apply CJ.mk | intro hc); all_goals try ((repeat' first | apply And.intro | intro hs) <;> (try simp only [go_sem, Bool.and_eq_false_iff] at hs) <;> omega)
 refine aw_loop2 true [] [0, 3] [] [] (fun i : {p : Nat × (List c4) // p.1 ≤ a.length ∧ p.2.length = a.length ∧ p.2.take p.1 = a.take p.1} => [(4, slV (.i .i64 i.1.1))]) (fun i => []) (fun i => [(896, [.s [], .i .i64 0, .s []], i.1.2.map c4.cells)]) (fun i => a.length - i.1.1) (⟨(0, List.replicate a.length default), by simp⟩) _ rfl ?_ ?_
 ·simp only [go_sem, a0r]
  all_goals first | omega | ((repeat' apply And.intro) <;> first | omega | rfl | skip)
 intro S0 hS0 i
 simp only [go_sem, a0r] at hS0
 obtain ⟨⟨i, L⟩, hi, hl, ht⟩ := i
 simp only at hi hl ht
 (try refine A2V ?_); simp only [go_sem, a0r, hS0]; (repeat' first | apply CJ.mk | intro hc); all_goals try ((repeat' first | apply And.intro | intro hs) <;> (try simp only [go_sem, Bool.and_eq_false_iff] at hs) <;> omega)
 ·(refine lpK_n2 (⟨(i + 1, L.set i (a.getD i default)), by simp only; omega, by simp [hl], l9 hl ht (by omega)⟩) _ rfl ?_; simp only [go_sem, a0r, hS0]; first | done | ((repeat' apply And.intro) <;> first | omega | (refine w64 ?_ ?_ ?_ <;> omega) | rfl | skip))
 ·obtain rfl := l7 hl ht (by omega)
  rfl
 all_goals trace_state
noncomputable def y6 : CT := s6 (fun (x : (List c4)) h => a6a x h)
@[go_sem] theorem a9y (a : List c4) : y6 [(false, [.sl false [.s [], .i .i64 0, .s []] (a.map c4.cells)])] = some ((((a.length + o0 m7 a) : Nat) : Int) ≤ 1048576, [], .one (false, [.sl true [.s [], .i .i64 0, .s []] (a.map c4.cells)])) := i7 _ (by intro x y h; simp at h; simp_all) a
theorem a3k : OkC Try.prog 49 y6 := i8 _
def a2v : ACode := q' ([o' 1 (.box 1 (.t 0)), w' 2 [.sl [.s [], .i .i64 0, .s []]]]) (q' ([w' 3 [.sl [.s [], .i .i64 0, .s []]]]) (q' ([f' 4 0 1, l' 5 4, c' 6 49 [5], f' 7 0 3, s'
 1 7 6]) (q' ([e' 8 1 3, s' 1 2 8]) .ret)))
theorem a6B : cmp Try.prog Try.f14 = some a2v := by kernel_rfl
theorem a7G (a : c8) (hpre : (a1X a : Int) ≤ 1048576) : A0l Try.prog 14 [(true, [.sl false [.s [], .i .i64 0, .s []] (a.Binds.map c4.cells)])] [] (.one (true, [.sl true [.s [], .i .i64 0, .s []] (a.Binds.map c4.cells)])) := by
 refine spec_of2 true false none Try.func14 a6B (rvs := [.c 2 true 1]) (hΓ := mkCtx_ok (deep := true) (l := [(49, [], y6)]) ⟨a3k, trivial⟩) (h := ?_)
 intro hb hE
 simp only [go_sem] at hb
 simp only [a2v, x']
 (try refine A2V ?_); simp only [go_sem]; (repeat' first | apply CJ.mk | intro hc); all_goals try ((repeat' first | apply And.intro | intro hs) <;> (try simp only [go_sem, Bool.and_eq_false_iff] at hs) <;> omega)
 all_goals (simp only [a1X] at *; omega)
noncomputable def a0Q : CT := s6 (fun (x : c8) h => a7G x h)
@[go_sem] theorem b0P (x0 : List c4) : a0Q [(true, [.sl false [.s [], .i .i64 0, .s []] (x0.map c4.cells)])] = some ((a1X (c8.mk x0) : Int) ≤ 1048576, [], .one (true, [.sl true [.s [], .i .i64 0, .s []] (((c8.mk x0).Binds).map c4.cells)])) := i7 _ (by rintro ⟨_⟩ ⟨_⟩ h; simp at h; simp_all) (c8.mk x0)
theorem a4A : OkC Try.prog 14 a0Q := i8 _
def a1f : ACode := q' ([o' 2 (.box 2 (.t 0)), o' 3 (.box 2 (.t 1)), b' 4 false]) (.seq (q' ([f' 5 0 2, l' 6 5, f' 7 0 3, l' 8 7, o' 9 (.bin .neq (.t 6) (.t 8))]) (.cond (.t 9) (q'
 ([b' 4 false]) .ret) .skip)) (.seq (q' ([f' 10 1 2, l' 11 10, f' 12 1 3, l' 13 12, o' 14 (.bin .neq (.t 11) (.t 13))]) (.cond (.t 14) (q' ([b' 4 false]) .ret)
 .skip)) (q' ([b' 4 true]) .ret)))
theorem a4L : cmp Try.prog Try.f86 = some a1f := by kernel_rfl
theorem a5T (a : c6) (b : c6) : A0l Try.prog 86 [(true, [.i .i64 a.N, .s a.S]), (true, [.i .i64 b.N, .s b.S])] [] (.one (false, [.b (decide (a = b))])) := by
 refine spec_of2 false false none Try.func86 a4L (rvs := [.t 4]) (hΓ := mkCtx_ok (deep := false) (l := []) trivial) (h := ?_)
 intro hb hE
 simp only [go_sem] at hb
 simp only [a1f, x']
 (try refine A2V ?_); simp only [go_sem]; (repeat' first | apply CJ.mk | intro hc); all_goals try ((repeat' first | apply And.intro | intro hs) <;> (try simp only [go_sem, Bool.and_eq_false_iff] at hs) <;> omega)
 all_goals (cases a; cases b; simp_all)
noncomputable def m9 : CT := j9 (fun (x : c6 × c6) => a5T x.1 x.2)
@[go_sem] theorem a9r (x0 : Int) (x1 : List UInt8) (x2 : Int) (x3 : List UInt8) : m9 [(true, [.i .i64 x0, .s x1]), (true, [.i .i64 x2, .s x3])] = some (True, [], .one (false, [.b (decide ((c6.mk x0 x1) = (c6.mk x2 x3)))])) := f5 _ (by rintro ⟨⟨_, _⟩, ⟨_, _⟩⟩ ⟨⟨_, _⟩, ⟨_, _⟩⟩ h; simp at h; simp_all) ((c6.mk x0 x1), (c6.mk x2 x3))
theorem p6 : OkC Try.prog 86 m9 := f8 _
def a1y : ACode := q' ([o' 2 (.box 3 (.t 0)), o' 3 (.box 3 (.t 1)), b' 4 false]) (.seq (q' ([f' 5 0 2, l' 6 5, f' 7 0 3, l' 8 7, o' 9 (.bin .neq (.t 6) (.t 8))]) (.cond (.t 9) (q'
 ([b' 4 false]) .ret) .skip)) (.seq (q' ([f' 10 1 2, e' 11 2 10, f' 12 1 3, e' 13 2 12, c' 14 86 [11, 13], o' 15 (.not (.t 14))]) (.cond (.t 15) (q' ([b' 4
 false]) .ret) .skip)) (q' ([b' 4 true]) .ret)))
theorem a5y : cmp Try.prog Try.f85 = some a1y := by kernel_rfl
theorem a6K (a : c4) (b : c4) : A0l Try.prog 85 [(true, [.s a.Var, .i .i64 a.Val.N, .s a.Val.S]), (true, [.s b.Var, .i .i64 b.Val.N, .s b.Val.S])] [] (.one (false, [.b (decide (a = b))])) := by
 refine spec_of2 false false none Try.func85 a5y (rvs := [.t 4]) (hΓ := mkCtx_ok (deep := false) (l := [(86, [], m9)]) ⟨p6, trivial⟩) (h := ?_)
 intro hb hE
 simp only [go_sem] at hb
 simp only [a1y, x']
 (try refine A2V ?_); simp only [go_sem]; (repeat' first | apply CJ.mk | intro hc); all_goals try ((repeat' first | apply And.intro | intro hs) <;> (try simp only [go_sem, Bool.and_eq_false_iff] at hs) <;> omega)
 all_goals (cases a; cases b; simp_all)
noncomputable def a0f : CT := j9 (fun (x : c4 × c4) => a6K x.1 x.2)
@[go_sem] theorem b0k (x0 : List UInt8) (x1 : Int) (x2 x3 : List UInt8) (x4 : Int) (x5 : List UInt8) : a0f [(true, [.s x0, .i .i64 x1, .s x2]), (true, [.s x3, .i .i64 x4, .s x5])] = some (True, [], .one (false, [.b (decide ((c4.mk x0 (c6.mk x1 x2)) = (c4.mk x3 (c6.mk x4 x5))))])) := f5 _ (by rintro ⟨⟨_, ⟨_, _⟩⟩, ⟨_, ⟨_, _⟩⟩⟩ ⟨⟨_, ⟨_, _⟩⟩, ⟨_, ⟨_, _⟩⟩⟩ h; simp at h; simp_all) ((c4.mk x0 (c6.mk x1 x2)), (c4.mk x3 (c6.mk x4 x5)))
theorem a3C : OkC Try.prog 85 a0f := f8 _
def a1d : ACode := q' ([b' 4 false]) (.seq (q' ([m' 6 0, n' 7 6, m' 8 1, n' 9 8, o' 10 (.bin .neq (.t 7) (.t 9))]) (.cond (.t 10) (q' ([b' 4 false]) .ret) .skip)) (.seq (q' ([z' 5
 0]) (.block 0 (.loop (.seq (q' ([m' 11 5, m' 12 0, n' 13 12, r' 14 11 13]) (.cond (.t 14) .skip (.exit 0))) (.seq (.block 1 (.seq (.reg true [m' 17 0, m' 18
 5, i' 19 3 17 18, e' 20 3 19, m' 21 1, m' 22 5, i' 23 3 21 22, e' 24 3 23, c' 25 85 [20, 24], o' 26 (.not (.t 25))]) (.cond (.t 26) (q' ([b' 4 false]) .ret)
 .skip))) (g' [m' 15 5, a' 16 15, m' 5 16])))))) (q' ([b' 4 true]) .ret)))
theorem a4J : cmp Try.prog Try.f52 = some a1d := by kernel_rfl
theorem a5R (a : List c4) (b : List c4) : A0l Try.prog 52 [(false, [.sl false [.s [], .i .i64 0, .s []] (a.map c4.cells)]), (false, [.sl false [.s [], .i .i64 0, .s []] (b.map c4.cells)])] [] (.one (false, [.b (decide (a = b))])) := by
 refine spec_of2 false false none Try.func52 a4J (rvs := [.t 4]) (hΓ := mkCtx_ok (deep := false) (l := [(85, [], a0f)]) ⟨a3C, trivial⟩) (h := ?_)
 intro hb hE
 simp only [go_sem] at hb
 simp only [a1d, x']
 (try refine A2V ?_); simp only [go_sem]; (repeat' first | apply CJ.mk | intro hc); all_goals try ((repeat' first | apply And.intro | intro hs) <;> (try simp only [go_sem, Bool.and_eq_false_iff] at hs) <;> omega)
 ·symm
  rw [decide_eq_false_iff_not]
  rintro rfl
  simp at hc
 have hl : a.length = b.length := by simpa [Int.ofNat_inj] using hc
 refine aw_loop2 false [] [0, 1] [] [] (fun i : {i : Nat // i ≤ a.length ∧ a.take i = b.take i} => [(5, slV (.i .i64 i.1))]) (fun i => []) (fun i => []) (fun i => a.length - i.1) (⟨0, by simp⟩) _ rfl ?_ ?_
 ·simp only [go_sem]
  all_goals first | omega | ((repeat' apply And.intro) <;> first | omega | rfl | skip)
 intro S0 hS0 i
 simp only [go_sem] at hS0
 obtain ⟨i, hi, ht⟩ := i
 (try refine A2V ?_); simp only [go_sem, hS0]; (repeat' first | apply CJ.mk | intro hc); all_goals try ((repeat' first | apply And.intro | intro hs) <;> (try simp only [go_sem, Bool.and_eq_false_iff] at hs) <;> omega)
 ·exact (decide_eq_false (a2P default (i := i) (by simpa using hc))).symm
 ·(refine lpK_n2 (⟨i + 1, by omega, a0W ht (by omega) (by omega) (d := default) (by simpa using hc)⟩) _ rfl ?_; simp only [go_sem, hS0]; first | done | ((repeat' apply And.intro) <;> first | omega | (refine w64 ?_ ?_ ?_ <;> omega) | rfl | skip))
 ·exact (decide_eq_true (l7 hl ht (by omega))).symm
 all_goals trace_state
noncomputable def x6 : CT := j9 (fun (x : (List c4) × (List c4)) => a5R x.1 x.2)
@[go_sem] theorem a9p (a b : List c4) : x6 [(false, [.sl false [.s [], .i .i64 0, .s []] (a.map c4.cells)]), (false, [.sl false [.s [], .i .i64 0, .s []] (b.map c4.cells)])] = some (True, [], .one (false, [.b (decide (a = b))])) := f5 _ (by rintro ⟨_, _⟩ ⟨_, _⟩ h; simp at h; simp_all) (a, b)
theorem a3d : OkC Try.prog 52 x6 := f8 _
def a2r : ACode := q' ([o' 2 (.box 1 (.t 0)), o' 3 (.box 1 (.t 1)), b' 4 false]) (.seq (q' ([f' 5 0 2, l' 6 5, f' 7 0 3, l' 8 7, c' 9 52 [6, 8], o' 10 (.not (.t 9))]) (.cond (.t
 10) (q' ([b' 4 false]) .ret) .skip)) (q' ([b' 4 true]) .ret))
theorem a6x : cmp Try.prog Try.f17 = some a2r := by kernel_rfl
theorem a7C (a : c8) (b : c8) : A0l Try.prog 17 [(true, [.sl false [.s [], .i .i64 0, .s []] (a.Binds.map c4.cells)]), (true, [.sl false [.s [], .i .i64 0, .s []] (b.Binds.map c4.cells)])] [] (.one (false, [.b (decide (a = b))])) := by
 refine spec_of2 false false none Try.func17 a6x (rvs := [.t 4]) (hΓ := mkCtx_ok (deep := false) (l := [(52, [], x6)]) ⟨a3d, trivial⟩) (h := ?_)
 intro hb hE
 simp only [go_sem] at hb
 simp only [a2r, x']
 (try refine A2V ?_); simp only [go_sem]; (repeat' first | apply CJ.mk | intro hc); all_goals try ((repeat' first | apply And.intro | intro hs) <;> (try simp only [go_sem, Bool.and_eq_false_iff] at hs) <;> omega)
 all_goals (cases a; cases b; simp_all)
noncomputable def a0M : CT := j9 (fun (x : c8 × c8) => a7C x.1 x.2)
@[go_sem] theorem b0L (x0 x1 : List c4) : a0M [(true, [.sl false [.s [], .i .i64 0, .s []] (x0.map c4.cells)]), (true, [.sl false [.s [], .i .i64 0, .s []] (x1.map c4.cells)])] = some (True, [], .one (false, [.b (decide ((c8.mk x0) = (c8.mk x1)))])) := f5 _ (by rintro ⟨⟨_⟩, ⟨_⟩⟩ ⟨⟨_⟩, ⟨_⟩⟩ h; simp at h; simp_all) ((c8.mk x0), (c8.mk x1))
theorem a4w : OkC Try.prog 17 a0M := f8 _
end Go.Aw
