/- Terms and rows: sizes, copies, equalities. No condition. -/
import Derived.Test.YthlbadfickhkfaaeaB0
namespace Go.Aw
open Go.Proofs
attribute [local irreducible] aft blk lpK retK AW A0l
set_option linter.unusedVariables false
set_option linter.unusedSimpArgs false
set_option maxRecDepth 100000
def n9 (x : c7) : Nat := x.Var.length + j8 x.Val
def a1B : ACode := q' ([o' 2 (.box 3 (.t 0)), z' 4 0]) (q' ([m' 5 1, f' 6 0 2, l' 7 6, o' 8 (.lens (.t 7)), o' 9 (.bin .sub (.t 5) (.t 8)), m' 1 9]) (.seq (q' ([m' 10 1, o' 11
 (.bin .lss (.t 10) (k' 0))]) (.cond (.t 11) (q' ([o' 4 (.mov (.k (.v false [.c (.i .i64 (-1))])))]) .ret) .skip)) (q' ([f' 12 1 2, e' 13 2 12, m' 14 1, c' 15
 82 [13, 14], m' 1 15]) (.seq (q' ([m' 16 1, o' 17 (.bin .lss (.t 16) (k' 0))]) (.cond (.t 17) (q' ([o' 4 (.mov (.k (.v false [.c (.i .i64 (-1))])))]) .ret)
 .skip)) (q' ([m' 18 1, m' 4 18]) .ret)))))
theorem a5B : cmp Try.prog Try.f47 = some a1B := by kernel_rfl
theorem a6N (a : c7) (left : Int) (hpre : 0 ≤ left ∧ left ≤ 1048576) : A0l Try.prog 47 [(true, [.s a.Var, .i .i64 a.Val.N, .s a.Val.S]), (false, [.i .i64 left])] [] (.one (false, [.i .i64 (szR left (n9 a : Nat))])) := by
 refine spec_of2 false false none Try.func47 a5B (rvs := [.t 4]) (hΓ := mkCtx_ok (deep := false) (l := [(82, [], n0)]) ⟨p8, trivial⟩) (h := ?_)
 intro hb hE
 simp only [go_sem] at hb
 simp only [a1B, x']
 (try refine A2V ?_); simp only [go_sem]; (repeat' first | apply CJ.mk | intro hc); all_goals try ((repeat' first | apply And.intro | intro hs) <;> (try simp only [go_sem, Bool.and_eq_false_iff] at hs) <;> omega)
 all_goals ((repeat (simp (disch := omega) only [a0E] at *)) <;> (try simp only [szR, n9] at *) <;> (first | omega | (split <;> omega)))
noncomputable def a0i : CT := s6 (fun (x : c7 × Int) h => a6N x.1 x.2 h)
@[go_sem] theorem b0n (x0 : List UInt8) (x1 : Int) (x2 : List UInt8) (x3 : Int) : a0i [(true, [.s x0, .i .i64 x1, .s x2]), (false, [.i .i64 x3])] = some (0 ≤ x3 ∧ x3 ≤ 1048576, [], .one (false, [.i .i64 (szR x3 (n9 (c7.mk x0 (c6.mk x1 x2)) : Nat))])) := i7 _ (by rintro ⟨⟨_, ⟨_, _⟩⟩, _⟩ ⟨⟨_, ⟨_, _⟩⟩, _⟩ h; simp at h; simp_all) ((c7.mk x0 (c6.mk x1 x2)), x3)
theorem a3F : OkC Try.prog 47 a0i := i8 _
def a1k : ACode := q' ([z' 4 0]) (q' ([m' 6 1, m' 7 0, n' 8 7, o' 9 (.bin .sub (.t 6) (.t 8)), m' 1 9]) (.seq (q' ([m' 10 1, o' 11 (.bin .lss (.t 10) (k' 0))]) (.cond (.t 11) (q'
 ([o' 4 (.mov (.k (.v false [.c (.i .i64 (-1))])))]) .ret) .skip)) (.seq (q' ([z' 5 0]) (.block 0 (.loop (.seq (q' ([m' 12 5, m' 13 0, n' 14 13, r' 15 12 14])
 (.cond (.t 15) .skip (.exit 0))) (.seq (.block 1 (q' ([m' 18 0, m' 19 5, i' 20 3 18 19, e' 21 3 20, m' 22 1, c' 23 47 [21, 22], m' 1 23]) (q' ([m' 24 1, o' 25
 (.bin .lss (.t 24) (k' 0))]) (.cond (.t 25) (q' ([o' 4 (.mov (.k (.v false [.c (.i .i64 (-1))])))]) .ret) .skip)))) (g' [m' 16 5, a' 17 16, m' 5 17])))))) (q'
 ([m' 26 1, m' 4 26]) .ret))))
theorem a4Q : cmp Try.prog Try.f12 = some a1k := by kernel_rfl
theorem a5Y (a : List c7) (left : Int) (hpre : 0 ≤ left ∧ left ≤ 1048576) : A0l Try.prog 12 [(false, [.sl false [.s [], .i .i64 0, .s []] (a.map c7.cells)]), (false, [.i .i64 left])] [] (.one (false, [.i .i64 (szR left ((a.length + o0 n9 a) : Nat))])) := by
 refine spec_of2 false false none Try.func12 a4Q (rvs := [.t 4]) (hΓ := mkCtx_ok (deep := false) (l := [(47, [], a0i)]) ⟨a3F, trivial⟩) (h := ?_)
 intro hb hE
 simp only [go_sem] at hb
 simp only [a1k, x']
 (try refine A2V ?_); simp only [go_sem]; (repeat' first | apply CJ.mk | intro hc); all_goals try ((repeat' first | apply And.intro | intro hs) <;> (try simp only [go_sem, Bool.and_eq_false_iff] at hs) <;> omega)
 ·all_goals ((repeat (simp (disch := omega) only [a0E] at *)) <;> (try simp only [szR, szR] at *) <;> (first | omega | (split <;> omega)))
 have hw := a0E (l := left) (n := a.length) (by omega) (by omega) (by omega) (by omega)
 rw [hw] at hc
 refine aw_loop2 false [] [0] [] [] (fun i : {i : Nat // i ≤ a.length ∧ (a.length : Int) + (o0 n9 (a.take i) : Nat) ≤ left} => [(5, slV (.i .i64 i.1)), (1, slV (.i .i64 (left - a.length - (o0 n9 (a.take i.1) : Nat))))]) (fun i => []) (fun i => []) (fun i => a.length - i.1) (⟨0, by simp only [List.take_zero, a3v]; omega⟩) _ rfl ?_ ?_
 ·simp only [go_sem, hw]
  all_goals first | omega | ((repeat' apply And.intro) <;> first | omega | rfl | skip)
 intro S0 hS0 i
 simp only [go_sem, hw] at hS0
 obtain ⟨i, hi, ht⟩ := i
 (try refine A2V ?_); simp only [go_sem, hw, hS0]; (repeat' first | apply CJ.mk | intro hc); all_goals try ((repeat' first | apply And.intro | intro hs) <;> (try simp only [go_sem, Bool.and_eq_false_iff] at hs) <;> omega)
 ·have h1 := l5 n9 (default : c7) (show i < a.length by omega)
  have h2 := a0X n9 a (i + 1)
  all_goals ((repeat (simp (disch := omega) only [a0E] at *)) <;> (try simp only [szR, szR] at *) <;> (first | omega | (split <;> omega)))
 ·have h1 := l5 n9 (default : c7) (show i < a.length by omega)
  (refine lpK_n2 (⟨i + 1, by omega, by unfold szR at hc; split at hc <;> omega⟩) _ rfl ?_; simp only [go_sem, hw, hS0]; first | done | ((repeat' apply And.intro) <;> first | omega | (refine w64 ?_ ?_ ?_ <;> omega) | rfl | skip))
  rw [h1]
  unfold szR at hc ⊢
  split at hc <;> omega
 ·have h1 := a6i n9 (show ¬ i < a.length by omega)
  all_goals ((repeat (simp (disch := omega) only [a0E] at *)) <;> (try simp only [szR, szR] at *) <;> (first | omega | (split <;> omega)))
 all_goals all_goals ((repeat (simp (disch := omega) only [a0E] at *)) <;> (try simp only [szR, szR] at *) <;> (first | omega | (split <;> omega)))
noncomputable def y5 : CT := s6 (fun (x : (List c7) × Int) h => a5Y x.1 x.2 h)
@[go_sem] theorem a9w (a : List c7) (x0 : Int) : y5 [(false, [.sl false [.s [], .i .i64 0, .s []] (a.map c7.cells)]), (false, [.i .i64 x0])] = some (0 ≤ x0 ∧ x0 ≤ 1048576, [], .one (false, [.i .i64 (szR x0 ((a.length + o0 n9 a) : Nat))])) := i7 _ (by rintro ⟨_, _⟩ ⟨_, _⟩ h; simp at h; simp_all) (a, x0)
theorem a3j : OkC Try.prog 12 y5 := i8 _
def a1D : ACode := q' ([o' 1 (.box 3 (.t 0)), w' 2 [.s, .i .i64, .s]]) (q' ([w' 3 [.s, .i .i64, .s]]) (q' ([f' 4 0 1, l' 5 4, f' 6 0 3, s' 1 6 5]) (q' ([f' 7 1 1, e' 8 2 7, c' 9
 84 [8], f' 10 1 3, s' 2 10 9]) (q' ([e' 11 3 3, s' 3 2 11]) .ret))))
theorem a5D : cmp Try.prog Try.f50 = some a1D := by kernel_rfl
theorem a6P (a : c7) : A0l Try.prog 50 [(true, [.s a.Var, .i .i64 a.Val.N, .s a.Val.S])] [] (.one (true, [.s a.Var, .i .i64 a.Val.N, .s a.Val.S])) := by
 refine spec_of2 true false none Try.func50 a5D (rvs := [.c 2 true 3]) (hΓ := mkCtx_ok (deep := true) (l := [(84, [], n7)]) ⟨p9, trivial⟩) (h := ?_)
 intro hb hE
 simp only [go_sem] at hb
 simp only [a1D, x']
 (try refine A2V ?_); simp only [go_sem]; (repeat' first | apply CJ.mk | intro hc); all_goals try ((repeat' first | apply And.intro | intro hs) <;> (try simp only [go_sem, Bool.and_eq_false_iff] at hs) <;> omega)
noncomputable def a0k : CT := j9 (fun (x : c7) => a6P x)
@[go_sem] theorem b0p (x0 : List UInt8) (x1 : Int) (x2 : List UInt8) : a0k [(true, [.s x0, .i .i64 x1, .s x2])] = some (True, [], .one (true, [.s ((c7.mk x0 (c6.mk x1 x2)).Var), .i .i64 (((c7.mk x0 (c6.mk x1 x2)).Val).N), .s (((c7.mk x0 (c6.mk x1 x2)).Val).S)])) := f5 _ (by rintro ⟨_, ⟨_, _⟩⟩ ⟨_, ⟨_, _⟩⟩ h; simp at h; simp_all) (c7.mk x0 (c6.mk x1 x2))
theorem a3H : OkC Try.prog 50 a0k := f8 _
def a1n : ACode := q' ([o' 2 (.mov (.k (.v false [.nl [.s [], .i .i64 0, .s []]])))]) (q' ([m' 5 0, n' 6 5, o' 7 (.mks 3 40 [.s, .i .i64, .s] (.t 6) (.t 6)), m' 3 7]) (.seq (q'
 ([z' 4 0]) (.block 0 (.loop (.seq (q' ([m' 8 4, m' 9 0, n' 10 9, r' 11 8 10]) (.cond (.t 11) .skip (.exit 0))) (.seq (.block 1 (g' [m' 14 3, m' 15 4, m' 16 0,
 m' 17 4, i' 18 3 16 17, e' 19 3 18, c' 20 50 [19], i' 21 3 14 15, s' 3 21 20])) (g' [m' 12 4, a' 13 12, m' 4 13])))))) (q' ([m' 22 3, m' 2 22]) .ret)))
theorem a4T : cmp Try.prog Try.f15 = some a1n := by kernel_rfl
theorem a6b (a : List c7) (hpre : (((a.length + o0 n9 a) : Nat) : Int) ≤ 1048576) : A0l Try.prog 15 [(false, [.sl false [.s [], .i .i64 0, .s []] (a.map c7.cells)])] [] (.one (false, [.sl true [.s [], .i .i64 0, .s []] (a.map c7.cells)])) := by
 refine spec_of2 true false none Try.func15 a4T (rvs := [.t 2]) (hΓ := mkCtx_ok (deep := true) (l := [(50, [], a0k)]) ⟨a3H, trivial⟩) (h := ?_)
 intro hb hE
 simp only [go_sem] at hb
 simp only [a1n, x']
 (try refine A2V ?_); simp only [go_sem, a0s]; (repeat' first | apply CJ.mk | intro hc); all_goals try ((repeat' first | apply And.intro | intro hs) <;> (try simp only [go_sem, Bool.and_eq_false_iff] at hs) <;> omega)
 refine aw_loop2 true [] [0, 3] [] [] (fun i : {p : Nat × (List c7) // p.1 ≤ a.length ∧ p.2.length = a.length ∧ p.2.take p.1 = a.take p.1} => [(4, slV (.i .i64 i.1.1))]) (fun i => []) (fun i => [(896, [.s [], .i .i64 0, .s []], i.1.2.map c7.cells)]) (fun i => a.length - i.1.1) (⟨(0, List.replicate a.length default), by simp⟩) _ rfl ?_ ?_
 ·simp only [go_sem, a0s]
  all_goals first | omega | ((repeat' apply And.intro) <;> first | omega | rfl | skip)
 intro S0 hS0 i
 simp only [go_sem, a0s] at hS0
 obtain ⟨⟨i, L⟩, hi, hl, ht⟩ := i
 simp only at hi hl ht
 (try refine A2V ?_); simp only [go_sem, a0s, hS0]; (repeat' first | apply CJ.mk | intro hc); all_goals try ((repeat' first | apply And.intro | intro hs) <;> (try simp only [go_sem, Bool.and_eq_false_iff] at hs) <;> omega)
 ·(refine lpK_n2 (⟨(i + 1, L.set i (a.getD i default)), by simp only; omega, by simp [hl], l9 hl ht (by omega)⟩) _ rfl ?_; simp only [go_sem, a0s, hS0]; first | done | ((repeat' apply And.intro) <;> first | omega | (refine w64 ?_ ?_ ?_ <;> omega) | rfl | skip))
 ·obtain rfl := l7 hl ht (by omega)
  rfl
 all_goals trace_state
noncomputable def y7 : CT := s6 (fun (x : (List c7)) h => a6b x h)
@[go_sem] theorem a9z (a : List c7) : y7 [(false, [.sl false [.s [], .i .i64 0, .s []] (a.map c7.cells)])] = some ((((a.length + o0 n9 a) : Nat) : Int) ≤ 1048576, [], .one (false, [.sl true [.s [], .i .i64 0, .s []] (a.map c7.cells)])) := i7 _ (by intro x y h; simp at h; simp_all) a
theorem a3l : OkC Try.prog 15 y7 := i8 _
def a1z : ACode := q' ([o' 2 (.box 3 (.t 0)), o' 3 (.box 3 (.t 1)), b' 4 false]) (.seq (q' ([f' 5 0 2, l' 6 5, f' 7 0 3, l' 8 7, o' 9 (.bin .neq (.t 6) (.t 8))]) (.cond (.t 9) (q'
 ([b' 4 false]) .ret) .skip)) (.seq (q' ([f' 10 1 2, e' 11 2 10, f' 12 1 3, e' 13 2 12, c' 14 86 [11, 13], o' 15 (.not (.t 14))]) (.cond (.t 15) (q' ([b' 4
 false]) .ret) .skip)) (q' ([b' 4 true]) .ret)))
theorem a5z : cmp Try.prog Try.f53 = some a1z := by kernel_rfl
theorem a6L (a : c7) (b : c7) : A0l Try.prog 53 [(true, [.s a.Var, .i .i64 a.Val.N, .s a.Val.S]), (true, [.s b.Var, .i .i64 b.Val.N, .s b.Val.S])] [] (.one (false, [.b (decide (a = b))])) := by
 refine spec_of2 false false none Try.func53 a5z (rvs := [.t 4]) (hΓ := mkCtx_ok (deep := false) (l := [(86, [], m9)]) ⟨p6, trivial⟩) (h := ?_)
 intro hb hE
 simp only [go_sem] at hb
 simp only [a1z, x']
 (try refine A2V ?_); simp only [go_sem]; (repeat' first | apply CJ.mk | intro hc); all_goals try ((repeat' first | apply And.intro | intro hs) <;> (try simp only [go_sem, Bool.and_eq_false_iff] at hs) <;> omega)
 all_goals (cases a; cases b; simp_all)
noncomputable def a0g : CT := j9 (fun (x : c7 × c7) => a6L x.1 x.2)
@[go_sem] theorem b0l (x0 : List UInt8) (x1 : Int) (x2 x3 : List UInt8) (x4 : Int) (x5 : List UInt8) : a0g [(true, [.s x0, .i .i64 x1, .s x2]), (true, [.s x3, .i .i64 x4, .s x5])] = some (True, [], .one (false, [.b (decide ((c7.mk x0 (c6.mk x1 x2)) = (c7.mk x3 (c6.mk x4 x5))))])) := f5 _ (by rintro ⟨⟨_, ⟨_, _⟩⟩, ⟨_, ⟨_, _⟩⟩⟩ ⟨⟨_, ⟨_, _⟩⟩, ⟨_, ⟨_, _⟩⟩⟩ h; simp at h; simp_all) ((c7.mk x0 (c6.mk x1 x2)), (c7.mk x3 (c6.mk x4 x5)))
theorem a3D : OkC Try.prog 53 a0g := f8 _
def a1e : ACode := q' ([b' 4 false]) (.seq (q' ([m' 6 0, n' 7 6, m' 8 1, n' 9 8, o' 10 (.bin .neq (.t 7) (.t 9))]) (.cond (.t 10) (q' ([b' 4 false]) .ret) .skip)) (.seq (q' ([z' 5
 0]) (.block 0 (.loop (.seq (q' ([m' 11 5, m' 12 0, n' 13 12, r' 14 11 13]) (.cond (.t 14) .skip (.exit 0))) (.seq (.block 1 (.seq (.reg true [m' 17 0, m' 18
 5, i' 19 3 17 18, e' 20 3 19, m' 21 1, m' 22 5, i' 23 3 21 22, e' 24 3 23, c' 25 53 [20, 24], o' 26 (.not (.t 25))]) (.cond (.t 26) (q' ([b' 4 false]) .ret)
 .skip))) (g' [m' 15 5, a' 16 15, m' 5 16])))))) (q' ([b' 4 true]) .ret)))
theorem a4K : cmp Try.prog Try.f18 = some a1e := by kernel_rfl
theorem a5S (a : List c7) (b : List c7) : A0l Try.prog 18 [(false, [.sl false [.s [], .i .i64 0, .s []] (a.map c7.cells)]), (false, [.sl false [.s [], .i .i64 0, .s []] (b.map c7.cells)])] [] (.one (false, [.b (decide (a = b))])) := by
 refine spec_of2 false false none Try.func18 a4K (rvs := [.t 4]) (hΓ := mkCtx_ok (deep := false) (l := [(53, [], a0g)]) ⟨a3D, trivial⟩) (h := ?_)
 intro hb hE
 simp only [go_sem] at hb
 simp only [a1e, x']
 (try refine A2V ?_); simp only [go_sem]; (repeat' first | apply CJ.mk | intro hc); all_goals try ((repeat' first | apply And.intro | intro hs) <;> (try simp only [go_sem, Bool.and_eq_false_iff] at hs) <;> omega)
 ·symm
  rw [decide_eq_false_iff_not]
  rintro rfl
  simp at hc
 have hl : a.length = b.length := by simpa [Int.ofNat_inj] using hc
 refine aw_loop2 false [] [0, 1] [] [] (fun i : {i : Nat // i ≤ a.length ∧ a.take i = b.take i} => [(5, slV (.i .i64 i.1))]) (fun i => []) (fun i => []) (fun i => a.length - i.1) (⟨0, by simp⟩) _ rfl ?_ ?_
 ·simp only [go_sem]
  all_goals first | omega | ((repeat' apply And.intro) <;> first | omega | rfl | skip)
 intro S0 hS0 i
 simp only [go_sem] at hS0
 obtain ⟨i, hi, ht⟩ := i
 (try refine A2V ?_); simp only [go_sem, hS0]; (repeat' first | apply CJ.mk | intro hc); all_goals try ((repeat' first | apply And.intro | intro hs) <;> (try simp only [go_sem, Bool.and_eq_false_iff] at hs) <;> omega)
 ·exact (decide_eq_false (a2P default (i := i) (by simpa using hc))).symm
 ·(refine lpK_n2 (⟨i + 1, by omega, a0W ht (by omega) (by omega) (d := default) (by simpa using hc)⟩) _ rfl ?_; simp only [go_sem, hS0]; first | done | ((repeat' apply And.intro) <;> first | omega | (refine w64 ?_ ?_ ?_ <;> omega) | rfl | skip))
 ·exact (decide_eq_true (l7 hl ht (by omega))).symm
 all_goals trace_state
noncomputable def x7 : CT := j9 (fun (x : (List c7) × (List c7)) => a5S x.1 x.2)
@[go_sem] theorem a9q (a b : List c7) : x7 [(false, [.sl false [.s [], .i .i64 0, .s []] (a.map c7.cells)]), (false, [.sl false [.s [], .i .i64 0, .s []] (b.map c7.cells)])] = some (True, [], .one (false, [.b (decide (a = b))])) := f5 _ (by rintro ⟨_, _⟩ ⟨_, _⟩ h; simp at h; simp_all) (a, b)
theorem a3e : OkC Try.prog 18 x7 := f8 _
def a0v : ACode := q' ([b' 4 false]) (.seq (q' ([m' 6 0, n' 7 6, m' 8 1, n' 9 8, o' 10 (.bin .neq (.t 7) (.t 9))]) (.cond (.t 10) (q' ([b' 4 false]) .ret) .skip)) (.seq (q' ([z' 5
 0]) (.block 0 (.loop (.seq (q' ([m' 11 5, m' 12 0, n' 13 12, r' 14 11 13]) (.cond (.t 14) .skip (.exit 0))) (.seq (.block 1 (.seq (.reg true [m' 17 0, m' 18
 5, i' 19 2 17 18, e' 20 2 19, m' 21 1, m' 22 5, i' 23 2 21 22, e' 24 2 23, c' 25 86 [20, 24], o' 26 (.not (.t 25))]) (.cond (.t 26) (q' ([b' 4 false]) .ret)
 .skip))) (g' [m' 15 5, a' 16 15, m' 5 16])))))) (q' ([b' 4 true]) .ret)))
theorem a3Q : cmp Try.prog Try.f54 = some a0v := by kernel_rfl
theorem a4Y (a : List c6) (b : List c6) : A0l Try.prog 54 [(false, [.sl false [.i .i64 0, .s []] (a.map c6.cells)]), (false, [.sl false [.i .i64 0, .s []] (b.map c6.cells)])] [] (.one (false, [.b (decide (a = b))])) := by
 refine spec_of2 false false none Try.func54 a3Q (rvs := [.t 4]) (hΓ := mkCtx_ok (deep := false) (l := [(86, [], m9)]) ⟨p6, trivial⟩) (h := ?_)
 intro hb hE
 simp only [go_sem] at hb
 simp only [a0v, x']
 (try refine A2V ?_); simp only [go_sem]; (repeat' first | apply CJ.mk | intro hc); all_goals try ((repeat' first | apply And.intro | intro hs) <;> (try simp only [go_sem, Bool.and_eq_false_iff] at hs) <;> omega)
 ·symm
  rw [decide_eq_false_iff_not]
  rintro rfl
  simp at hc
 have hl : a.length = b.length := by simpa [Int.ofNat_inj] using hc
 refine aw_loop2 false [] [0, 1] [] [] (fun i : {i : Nat // i ≤ a.length ∧ a.take i = b.take i} => [(5, slV (.i .i64 i.1))]) (fun i => []) (fun i => []) (fun i => a.length - i.1) (⟨0, by simp⟩) _ rfl ?_ ?_
 ·simp only [go_sem]
  all_goals first | omega | ((repeat' apply And.intro) <;> first | omega | rfl | skip)
 intro S0 hS0 i
 simp only [go_sem] at hS0
 obtain ⟨i, hi, ht⟩ := i
 (try refine A2V ?_); simp only [go_sem, hS0]; (repeat' first | apply CJ.mk | intro hc); all_goals try ((repeat' first | apply And.intro | intro hs) <;> (try simp only [go_sem, Bool.and_eq_false_iff] at hs) <;> omega)
 ·exact (decide_eq_false (a2P default (i := i) (by simpa using hc))).symm
 ·(refine lpK_n2 (⟨i + 1, by omega, a0W ht (by omega) (by omega) (d := default) (by simpa using hc)⟩) _ rfl ?_; simp only [go_sem, hS0]; first | done | ((repeat' apply And.intro) <;> first | omega | (refine w64 ?_ ?_ ?_ <;> omega) | rfl | skip))
 ·exact (decide_eq_true (l7 hl ht (by omega))).symm
 all_goals trace_state
noncomputable def u4 : CT := j9 (fun (x : (List c6) × (List c6)) => a4Y x.1 x.2)
@[go_sem] theorem a8S (a b : List c6) : u4 [(false, [.sl false [.i .i64 0, .s []] (a.map c6.cells)]), (false, [.sl false [.i .i64 0, .s []] (b.map c6.cells)])] = some (True, [], .one (false, [.b (decide (a = b))])) := f5 _ (by rintro ⟨_, _⟩ ⟨_, _⟩ h; simp at h; simp_all) (a, b)
theorem a2G : OkC Try.prog 54 u4 := f8 _
def a2s : ACode := q' ([o' 2 (.box 1 (.t 0)), o' 3 (.box 1 (.t 1)), b' 4 false]) (.seq (q' ([f' 5 0 2, l' 6 5, f' 7 0 3, l' 8 7, c' 9 54 [6, 8], o' 10 (.not (.t 9))]) (.cond (.t
 10) (q' ([b' 4 false]) .ret) .skip)) (q' ([b' 4 true]) .ret))
theorem a6y : cmp Try.prog Try.f19 = some a2s := by kernel_rfl
theorem a7D (a : c9) (b : c9) : A0l Try.prog 19 [(true, [.sl false [.i .i64 0, .s []] (a.V.map c6.cells)]), (true, [.sl false [.i .i64 0, .s []] (b.V.map c6.cells)])] [] (.one (false, [.b (decide (a = b))])) := by
 refine spec_of2 false false none Try.func19 a6y (rvs := [.t 4]) (hΓ := mkCtx_ok (deep := false) (l := [(54, [], u4)]) ⟨a2G, trivial⟩) (h := ?_)
 intro hb hE
 simp only [go_sem] at hb
 simp only [a2s, x']
 (try refine A2V ?_); simp only [go_sem]; (repeat' first | apply CJ.mk | intro hc); all_goals try ((repeat' first | apply And.intro | intro hs) <;> (try simp only [go_sem, Bool.and_eq_false_iff] at hs) <;> omega)
 all_goals (cases a; cases b; simp_all)
noncomputable def a0N : CT := j9 (fun (x : c9 × c9) => a7D x.1 x.2)
@[go_sem] theorem b0M (x0 x1 : List c6) : a0N [(true, [.sl false [.i .i64 0, .s []] (x0.map c6.cells)]), (true, [.sl false [.i .i64 0, .s []] (x1.map c6.cells)])] = some (True, [], .one (false, [.b (decide ((c9.mk x0) = (c9.mk x1)))])) := f5 _ (by rintro ⟨⟨_⟩, ⟨_⟩⟩ ⟨⟨_⟩, ⟨_⟩⟩ h; simp at h; simp_all) ((c9.mk x0), (c9.mk x1))
theorem a4x : OkC Try.prog 19 a0N := f8 _
end Go.Aw
