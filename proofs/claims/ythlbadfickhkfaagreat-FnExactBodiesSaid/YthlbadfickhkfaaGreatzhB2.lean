/- Terms and rows: sizes, copies, equalities. No condition. -/
import Derived.Test.YthlbadfickhkfaaGreatzhB0
namespace Go.Aw
open Go.Proofs
attribute [local irreducible] aft blk lpK retK AW A0m
set_option linter.unusedVariables false
set_option linter.unusedSimpArgs false
set_option maxRecDepth 100000
def v8 (x : c4) : Nat := x.Var.length + u3 x.Val
def a7n : ACode := q' ([o' 2 (.box 3 (.t 0)), z' 4 0]) (q' ([m' 5 1, f' 6 0 2, l' 7 6, o' 8 (.lens (.t 7)), o' 9 (.bin .sub (.t 5) (.t 8)), m' 1 9]) (.seq (q' ([m' 10 1, o' 11
 (.bin .lss (.t 10) (k' 0))]) (.cond (.t 11) (q' ([o' 4 (.mov (.k (.v false [.c (.i .i64 (-1))])))]) .ret) .skip)) (q' ([f' 12 1 2, e' 13 2 12, m' 14 1, c' 15
 241 [13, 14], m' 1 15]) (.seq (q' ([m' 16 1, o' 17 (.bin .lss (.t 16) (k' 0))]) (.cond (.t 17) (q' ([o' 4 (.mov (.k (.v false [.c (.i .i64 (-1))])))]) .ret)
 .skip)) (q' ([m' 18 1, m' 4 18]) .ret)))))
theorem b5K : cmp Tryz.prog Tryz.f263 = some a7n := by kernel_rfl
theorem b8m (a : c4) (left : Int) (hpre : 0 ≤ left ∧ left ≤ 1048576) : A0m Tryz.prog 263 [(true, [.s a.Var, .i .i64 a.Val.N, .s a.Val.S]), (false, [.i .i64 left])] [] (.one (false, [.i .i64 (szR left (v8 a : Nat))])) := by
 refine spec_of2 false false none Tryz.func263 b5K (rvs := [.t 4]) (hΓ := mkCtx_ok (deep := false) (l := [(241, [], a0F)]) ⟨a3M, trivial⟩) (h := ?_)
 intro hb hE
 simp only [go_sem] at hb
 simp only [a7n, x']
 (try refine A2Z ?_); simp only [go_sem]; (repeat' first | apply CJ.mk | intro hc); all_goals try ((repeat' first | apply And.intro | intro hs) <;> (try simp only [go_sem, Bool.and_eq_false_iff] at hs) <;> omega)
 all_goals ((repeat (simp (disch := omega) only [a0k] at *)) <;> (try simp only [szR, v8] at *) <;> (first | omega | (split <;> omega)))
noncomputable def a1v : CT := l8 (fun (x : c4 × Int) h => b8m x.1 x.2 h)
@[go_sem] theorem c5H (x0 : List UInt8) (x1 : Int) (x2 : List UInt8) (x3 : Int) : a1v [(true, [.s x0, .i .i64 x1, .s x2]), (false, [.i .i64 x3])] = some (0 ≤ x3 ∧ x3 ≤ 1048576, [], .one (false, [.i .i64 (szR x3 (v8 (c4.mk x0 (c6.mk x1 x2)) : Nat))])) := f9 _ (by rintro ⟨⟨_, ⟨_, _⟩⟩, _⟩ ⟨⟨_, ⟨_, _⟩⟩, _⟩ h; simp at h; simp_all) ((c4.mk x0 (c6.mk x1 x2)), x3)
theorem a5k : OkC Tryz.prog 263 a1v := i3 _
def a6u : ACode := q' ([z' 4 0]) (q' ([m' 6 1, m' 7 0, n' 8 7, o' 9 (.bin .sub (.t 6) (.t 8)), m' 1 9]) (.seq (q' ([m' 10 1, o' 11 (.bin .lss (.t 10) (k' 0))]) (.cond (.t 11) (q'
 ([o' 4 (.mov (.k (.v false [.c (.i .i64 (-1))])))]) .ret) .skip)) (.seq (q' ([z' 5 0]) (.block 0 (.loop (.seq (q' ([m' 12 5, m' 13 0, n' 14 13, r' 15 12 14])
 (.cond (.t 15) .skip (.exit 0))) (.seq (.block 1 (q' ([m' 18 0, m' 19 5, i' 20 3 18 19, e' 21 3 20, m' 22 1, c' 23 263 [21, 22], m' 1 23]) (q' ([m' 24 1, o'
 25 (.bin .lss (.t 24) (k' 0))]) (.cond (.t 25) (q' ([o' 4 (.mov (.k (.v false [.c (.i .i64 (-1))])))]) .ret) .skip)))) (g' [m' 16 5, a' 17 16, m' 5 17]))))))
 (q' ([m' 26 1, m' 4 26]) .ret))))
theorem b3J : cmp Tryz.prog Tryz.f178 = some a6u := by kernel_rfl
theorem b6C (a : List c4) (left : Int) (hpre : 0 ≤ left ∧ left ≤ 1048576) : A0m Tryz.prog 178 [(false, [.sl false [.s [], .i .i64 0, .s []] (a.map c4.cells)]), (false, [.i .i64 left])] [] (.one (false, [.i .i64 (szR left ((a.length + i7 v8 a) : Nat))])) := by
 refine spec_of2 false false none Tryz.func178 b3J (rvs := [.t 4]) (hΓ := mkCtx_ok (deep := false) (l := [(263, [], a1v)]) ⟨a5k, trivial⟩) (h := ?_)
 intro hb hE
 simp only [go_sem] at hb
 simp only [a6u, x']
 (try refine A2Z ?_); simp only [go_sem]; (repeat' first | apply CJ.mk | intro hc); all_goals try ((repeat' first | apply And.intro | intro hs) <;> (try simp only [go_sem, Bool.and_eq_false_iff] at hs) <;> omega)
 ·all_goals ((repeat (simp (disch := omega) only [a0k] at *)) <;> (try simp only [szR, szR] at *) <;> (first | omega | (split <;> omega)))
 have hw := a0k (l := left) (n := a.length) (by omega) (by omega) (by omega) (by omega)
 rw [hw] at hc
 refine aw_loop2 false [] [0] [] [] (fun i : {i : Nat // i ≤ a.length ∧ (a.length : Int) + (i7 v8 (a.take i) : Nat) ≤ left} => [(5, slV (.i .i64 i.1)), (1, slV (.i .i64 (left - a.length - (i7 v8 (a.take i.1) : Nat))))]) (fun i => []) (fun i => []) (fun i => a.length - i.1) (⟨0, by simp only [List.take_zero, a5x]; omega⟩) _ rfl ?_ ?_
 ·simp only [go_sem, hw]
  all_goals first | omega | ((repeat' apply And.intro) <;> first | omega | rfl | skip)
 intro S0 hS0 i
 simp only [go_sem, hw] at hS0
 obtain ⟨i, hi, ht⟩ := i
 (try refine A2Z ?_); simp only [go_sem, hw, hS0]; (repeat' first | apply CJ.mk | intro hc); all_goals try ((repeat' first | apply And.intro | intro hs) <;> (try simp only [go_sem, Bool.and_eq_false_iff] at hs) <;> omega)
 ·have h1 := j4 v8 (default : c4) (show i < a.length by omega)
  have h2 := p7 v8 a (i + 1)
  all_goals ((repeat (simp (disch := omega) only [a0k] at *)) <;> (try simp only [szR, szR] at *) <;> (first | omega | (split <;> omega)))
 ·have h1 := j4 v8 (default : c4) (show i < a.length by omega)
  (refine lpK_n2 (⟨i + 1, by omega, by unfold szR at hc; split at hc <;> omega⟩) _ rfl ?_; simp only [go_sem, hw, hS0]; first | done | ((repeat' apply And.intro) <;> first | omega | (refine w64 ?_ ?_ ?_ <;> omega) | rfl | skip))
  rw [h1]
  unfold szR at hc ⊢
  split at hc <;> omega
 ·have h1 := a0r v8 (show ¬ i < a.length by omega)
  all_goals ((repeat (simp (disch := omega) only [a0k] at *)) <;> (try simp only [szR, szR] at *) <;> (first | omega | (split <;> omega)))
 all_goals all_goals ((repeat (simp (disch := omega) only [a0k] at *)) <;> (try simp only [szR, szR] at *) <;> (first | omega | (split <;> omega)))
noncomputable def a3g : CT := l8 (fun (x : (List c4) × Int) h => b6C x.1 x.2 h)
@[go_sem] theorem c4d (a : List c4) (x0 : Int) : a3g [(false, [.sl false [.s [], .i .i64 0, .s []] (a.map c4.cells)]), (false, [.i .i64 x0])] = some (0 ≤ x0 ∧ x0 ≤ 1048576, [], .one (false, [.i .i64 (szR x0 ((a.length + i7 v8 a) : Nat))])) := f9 _ (by rintro ⟨_, _⟩ ⟨_, _⟩ h; simp at h; simp_all) (a, x0)
theorem b0p : OkC Tryz.prog 178 a3g := i3 _
def a7s : ACode := q' ([o' 1 (.box 3 (.t 0)), w' 2 [.s, .i .i64, .s]]) (q' ([w' 3 [.s, .i .i64, .s]]) (q' ([f' 4 0 1, l' 5 4, f' 6 0 3, s' 1 6 5]) (q' ([f' 7 1 1, e' 8 2 7, c' 9
 243 [8], f' 10 1 3, s' 2 10 9]) (q' ([e' 11 3 3, s' 3 2 11]) .ret))))
theorem b5P : cmp Tryz.prog Tryz.f272 = some a7s := by kernel_rfl
theorem b8r (a : c4) : A0m Tryz.prog 272 [(true, [.s a.Var, .i .i64 a.Val.N, .s a.Val.S])] [] (.one (true, [.s a.Var, .i .i64 a.Val.N, .s a.Val.S])) := by
 refine spec_of2 true false none Tryz.func272 b5P (rvs := [.c 2 true 3]) (hΓ := mkCtx_ok (deep := true) (l := [(243, [], a0G)]) ⟨a3N, trivial⟩) (h := ?_)
 intro hb hE
 simp only [go_sem] at hb
 simp only [a7s, x']
 (try refine A2Z ?_); simp only [go_sem]; (repeat' first | apply CJ.mk | intro hc); all_goals try ((repeat' first | apply And.intro | intro hs) <;> (try simp only [go_sem, Bool.and_eq_false_iff] at hs) <;> omega)
noncomputable def a1x : CT := j7 (fun (x : c4) => b8r x)
@[go_sem] theorem c5M (x0 : List UInt8) (x1 : Int) (x2 : List UInt8) : a1x [(true, [.s x0, .i .i64 x1, .s x2])] = some (True, [], .one (true, [.s ((c4.mk x0 (c6.mk x1 x2)).Var), .i .i64 (((c4.mk x0 (c6.mk x1 x2)).Val).N), .s (((c4.mk x0 (c6.mk x1 x2)).Val).S)])) := f7 _ (by rintro ⟨_, ⟨_, _⟩⟩ ⟨_, ⟨_, _⟩⟩ h; simp at h; simp_all) (c4.mk x0 (c6.mk x1 x2))
theorem a5m : OkC Tryz.prog 272 a1x := f8 _
def a6y : ACode := q' ([o' 2 (.mov (.k (.v false [.nl [.s [], .i .i64 0, .s []]])))]) (q' ([m' 5 0, n' 6 5, o' 7 (.mks 3 40 [.s, .i .i64, .s] (.t 6) (.t 6)), m' 3 7]) (.seq (q'
 ([z' 4 0]) (.block 0 (.loop (.seq (q' ([m' 8 4, m' 9 0, n' 10 9, r' 11 8 10]) (.cond (.t 11) .skip (.exit 0))) (.seq (.block 1 (g' [m' 14 3, m' 15 4, m' 16 0,
 m' 17 4, i' 18 3 16 17, e' 19 3 18, c' 20 272 [19], i' 21 3 14 15, s' 3 21 20])) (g' [m' 12 4, a' 13 12, m' 4 13])))))) (q' ([m' 22 3, m' 2 22]) .ret)))
theorem b3N : cmp Tryz.prog Tryz.f189 = some a6y := by kernel_rfl
theorem b6G (a : List c4) (hpre : (((a.length + i7 v8 a) : Nat) : Int) ≤ 1048576) : A0m Tryz.prog 189 [(false, [.sl false [.s [], .i .i64 0, .s []] (a.map c4.cells)])] [] (.one (false, [.sl true [.s [], .i .i64 0, .s []] (a.map c4.cells)])) := by
 refine spec_of2 true false none Tryz.func189 b3N (rvs := [.t 2]) (hΓ := mkCtx_ok (deep := true) (l := [(272, [], a1x)]) ⟨a5m, trivial⟩) (h := ?_)
 intro hb hE
 simp only [go_sem] at hb
 simp only [a6y, x']
 (try refine A2Z ?_); simp only [go_sem, a4x]; (repeat' first | apply CJ.mk | intro hc); all_goals try ((repeat' first | apply And.intro | intro hs) <;> (try simp only [go_sem, Bool.and_eq_false_iff] at hs) <;> omega)
 refine aw_loop2 true [] [0, 3] [] [] (fun i : {p : Nat × (List c4) // p.1 ≤ a.length ∧ p.2.length = a.length ∧ p.2.take p.1 = a.take p.1} => [(4, slV (.i .i64 i.1.1))]) (fun i => []) (fun i => [(896, [.s [], .i .i64 0, .s []], i.1.2.map c4.cells)]) (fun i => a.length - i.1.1) (⟨(0, List.replicate a.length default), by simp⟩) _ rfl ?_ ?_
 ·simp only [go_sem, a4x]
  all_goals first | omega | ((repeat' apply And.intro) <;> first | omega | rfl | skip)
 intro S0 hS0 i
 simp only [go_sem, a4x] at hS0
 obtain ⟨⟨i, L⟩, hi, hl, ht⟩ := i
 simp only at hi hl ht
 (try refine A2Z ?_); simp only [go_sem, a4x, hS0]; (repeat' first | apply CJ.mk | intro hc); all_goals try ((repeat' first | apply And.intro | intro hs) <;> (try simp only [go_sem, Bool.and_eq_false_iff] at hs) <;> omega)
 ·(refine lpK_n2 (⟨(i + 1, L.set i (a.getD i default)), by simp only; omega, by simp [hl], t5 hl ht (by omega)⟩) _ rfl ?_; simp only [go_sem, a4x, hS0]; first | done | ((repeat' apply And.intro) <;> first | omega | (refine w64 ?_ ?_ ?_ <;> omega) | rfl | skip))
 ·obtain rfl := o7 hl ht (by omega)
  rfl
 all_goals trace_state
noncomputable def a3j : CT := l8 (fun (x : (List c4)) h => b6G x h)
@[go_sem] theorem c4h (a : List c4) : a3j [(false, [.sl false [.s [], .i .i64 0, .s []] (a.map c4.cells)])] = some ((((a.length + i7 v8 a) : Nat) : Int) ≤ 1048576, [], .one (false, [.sl true [.s [], .i .i64 0, .s []] (a.map c4.cells)])) := f9 _ (by intro x y h; simp at h; simp_all) a
theorem b0s : OkC Tryz.prog 189 a3j := i3 _
def a7i : ACode := q' ([o' 2 (.box 3 (.t 0)), o' 3 (.box 3 (.t 1)), b' 4 false]) (.seq (q' ([f' 5 0 2, l' 6 5, f' 7 0 3, l' 8 7, o' 9 (.bin .neq (.t 6) (.t 8))]) (.cond (.t 9) (q'
 ([b' 4 false]) .ret) .skip)) (.seq (q' ([f' 10 1 2, e' 11 2 10, f' 12 1 3, e' 13 2 12, c' 14 247 [11, 13], o' 15 (.not (.t 14))]) (.cond (.t 15) (q' ([b' 4
 false]) .ret) .skip)) (q' ([b' 4 true]) .ret)))
theorem b5F : cmp Tryz.prog Tryz.f289 = some a7i := by kernel_rfl
theorem b8h (a : c4) (b : c4) : A0m Tryz.prog 289 [(true, [.s a.Var, .i .i64 a.Val.N, .s a.Val.S]), (true, [.s b.Var, .i .i64 b.Val.N, .s b.Val.S])] [] (.one (false, [.b (decide (a = b))])) := by
 refine spec_of2 false false none Tryz.func289 b5F (rvs := [.t 4]) (hΓ := mkCtx_ok (deep := false) (l := [(247, [], a0d)]) ⟨a0C, trivial⟩) (h := ?_)
 intro hb hE
 simp only [go_sem] at hb
 simp only [a7i, x']
 (try refine A2Z ?_); simp only [go_sem]; (repeat' first | apply CJ.mk | intro hc); all_goals try ((repeat' first | apply And.intro | intro hs) <;> (try simp only [go_sem, Bool.and_eq_false_iff] at hs) <;> omega)
 all_goals (cases a; cases b; simp_all)
noncomputable def a1t : CT := j7 (fun (x : c4 × c4) => b8h x.1 x.2)
@[go_sem] theorem c5C (x0 : List UInt8) (x1 : Int) (x2 x3 : List UInt8) (x4 : Int) (x5 : List UInt8) : a1t [(true, [.s x0, .i .i64 x1, .s x2]), (true, [.s x3, .i .i64 x4, .s x5])] = some (True, [], .one (false, [.b (decide ((c4.mk x0 (c6.mk x1 x2)) = (c4.mk x3 (c6.mk x4 x5))))])) := f7 _ (by rintro ⟨⟨_, ⟨_, _⟩⟩, ⟨_, ⟨_, _⟩⟩⟩ ⟨⟨_, ⟨_, _⟩⟩, ⟨_, ⟨_, _⟩⟩⟩ h; simp at h; simp_all) ((c4.mk x0 (c6.mk x1 x2)), (c4.mk x3 (c6.mk x4 x5)))
theorem a5i : OkC Tryz.prog 289 a1t := f8 _
def a6q : ACode := q' ([b' 4 false]) (.seq (q' ([m' 6 0, n' 7 6, m' 8 1, n' 9 8, o' 10 (.bin .neq (.t 7) (.t 9))]) (.cond (.t 10) (q' ([b' 4 false]) .ret) .skip)) (.seq (q' ([z' 5
 0]) (.block 0 (.loop (.seq (q' ([m' 11 5, m' 12 0, n' 13 12, r' 14 11 13]) (.cond (.t 14) .skip (.exit 0))) (.seq (.block 1 (.seq (.reg true [m' 17 0, m' 18
 5, i' 19 3 17 18, e' 20 3 19, m' 21 1, m' 22 5, i' 23 3 21 22, e' 24 3 23, c' 25 289 [20, 24], o' 26 (.not (.t 25))]) (.cond (.t 26) (q' ([b' 4 false]) .ret)
 .skip))) (g' [m' 15 5, a' 16 15, m' 5 16])))))) (q' ([b' 4 true]) .ret)))
theorem b3F : cmp Tryz.prog Tryz.f205 = some a6q := by kernel_rfl
theorem b6y (a : List c4) (b : List c4) : A0m Tryz.prog 205 [(false, [.sl false [.s [], .i .i64 0, .s []] (a.map c4.cells)]), (false, [.sl false [.s [], .i .i64 0, .s []] (b.map c4.cells)])] [] (.one (false, [.b (decide (a = b))])) := by
 refine spec_of2 false false none Tryz.func205 b3F (rvs := [.t 4]) (hΓ := mkCtx_ok (deep := false) (l := [(289, [], a1t)]) ⟨a5i, trivial⟩) (h := ?_)
 intro hb hE
 simp only [go_sem] at hb
 simp only [a6q, x']
 (try refine A2Z ?_); simp only [go_sem]; (repeat' first | apply CJ.mk | intro hc); all_goals try ((repeat' first | apply And.intro | intro hs) <;> (try simp only [go_sem, Bool.and_eq_false_iff] at hs) <;> omega)
 ·symm
  rw [decide_eq_false_iff_not]
  rintro rfl
  simp at hc
 have hl : a.length = b.length := by simpa [Int.ofNat_inj] using hc
 refine aw_loop2 false [] [0, 1] [] [] (fun i : {i : Nat // i ≤ a.length ∧ a.take i = b.take i} => [(5, slV (.i .i64 i.1))]) (fun i => []) (fun i => []) (fun i => a.length - i.1) (⟨0, by simp⟩) _ rfl ?_ ?_
 ·simp only [go_sem]
  all_goals first | omega | ((repeat' apply And.intro) <;> first | omega | rfl | skip)
 intro S0 hS0 i
 simp only [go_sem] at hS0
 obtain ⟨i, hi, ht⟩ := i
 (try refine A2Z ?_); simp only [go_sem, hS0]; (repeat' first | apply CJ.mk | intro hc); all_goals try ((repeat' first | apply And.intro | intro hs) <;> (try simp only [go_sem, Bool.and_eq_false_iff] at hs) <;> omega)
 ·exact (decide_eq_false (a0u default (i := i) (by simpa using hc))).symm
 ·(refine lpK_n2 (⟨i + 1, by omega, y7 ht (by omega) (by omega) (d := default) (by simpa using hc)⟩) _ rfl ?_; simp only [go_sem, hS0]; first | done | ((repeat' apply And.intro) <;> first | omega | (refine w64 ?_ ?_ ?_ <;> omega) | rfl | skip))
 ·exact (decide_eq_true (o7 hl ht (by omega))).symm
 all_goals trace_state
noncomputable def a3d : CT := j7 (fun (x : (List c4) × (List c4)) => b6y x.1 x.2)
@[go_sem] theorem c3Z (a b : List c4) : a3d [(false, [.sl false [.s [], .i .i64 0, .s []] (a.map c4.cells)]), (false, [.sl false [.s [], .i .i64 0, .s []] (b.map c4.cells)])] = some (True, [], .one (false, [.b (decide (a = b))])) := f7 _ (by rintro ⟨_, _⟩ ⟨_, _⟩ h; simp at h; simp_all) (a, b)
theorem b0m : OkC Tryz.prog 205 a3d := f8 _
def a4F : ACode := q' ([b' 4 false]) (.seq (q' ([m' 6 0, n' 7 6, m' 8 1, n' 9 8, o' 10 (.bin .neq (.t 7) (.t 9))]) (.cond (.t 10) (q' ([b' 4 false]) .ret) .skip)) (.seq (q' ([z' 5
 0]) (.block 0 (.loop (.seq (q' ([m' 11 5, m' 12 0, n' 13 12, r' 14 11 13]) (.cond (.t 14) .skip (.exit 0))) (.seq (.block 1 (.seq (.reg true [m' 17 0, m' 18
 5, i' 19 2 17 18, e' 20 2 19, m' 21 1, m' 22 5, i' 23 2 21 22, e' 24 2 23, c' 25 247 [20, 24], o' 26 (.not (.t 25))]) (.cond (.t 26) (q' ([b' 4 false]) .ret)
 .skip))) (g' [m' 15 5, a' 16 15, m' 5 16])))))) (q' ([b' 4 true]) .ret)))
theorem b1T : cmp Tryz.prog Tryz.f166 = some a4F := by kernel_rfl
theorem b4c (a : List c6) (b : List c6) : A0m Tryz.prog 166 [(false, [.sl false [.i .i64 0, .s []] (a.map c6.cells)]), (false, [.sl false [.i .i64 0, .s []] (b.map c6.cells)])] [] (.one (false, [.b (decide (a = b))])) := by
 refine spec_of2 false false none Tryz.func166 b1T (rvs := [.t 4]) (hΓ := mkCtx_ok (deep := false) (l := [(247, [], a0d)]) ⟨a0C, trivial⟩) (h := ?_)
 intro hb hE
 simp only [go_sem] at hb
 simp only [a4F, x']
 (try refine A2Z ?_); simp only [go_sem]; (repeat' first | apply CJ.mk | intro hc); all_goals try ((repeat' first | apply And.intro | intro hs) <;> (try simp only [go_sem, Bool.and_eq_false_iff] at hs) <;> omega)
 ·symm
  rw [decide_eq_false_iff_not]
  rintro rfl
  simp at hc
 have hl : a.length = b.length := by simpa [Int.ofNat_inj] using hc
 refine aw_loop2 false [] [0, 1] [] [] (fun i : {i : Nat // i ≤ a.length ∧ a.take i = b.take i} => [(5, slV (.i .i64 i.1))]) (fun i => []) (fun i => []) (fun i => a.length - i.1) (⟨0, by simp⟩) _ rfl ?_ ?_
 ·simp only [go_sem]
  all_goals first | omega | ((repeat' apply And.intro) <;> first | omega | rfl | skip)
 intro S0 hS0 i
 simp only [go_sem] at hS0
 obtain ⟨i, hi, ht⟩ := i
 (try refine A2Z ?_); simp only [go_sem, hS0]; (repeat' first | apply CJ.mk | intro hc); all_goals try ((repeat' first | apply And.intro | intro hs) <;> (try simp only [go_sem, Bool.and_eq_false_iff] at hs) <;> omega)
 ·exact (decide_eq_false (a0u default (i := i) (by simpa using hc))).symm
 ·(refine lpK_n2 (⟨i + 1, by omega, y7 ht (by omega) (by omega) (d := default) (by simpa using hc)⟩) _ rfl ?_; simp only [go_sem, hS0]; first | done | ((repeat' apply And.intro) <;> first | omega | (refine w64 ?_ ?_ ?_ <;> omega) | rfl | skip))
 ·exact (decide_eq_true (o7 hl ht (by omega))).symm
 all_goals trace_state
noncomputable def a1Q : CT := j7 (fun (x : (List c6) × (List c6)) => b4c x.1 x.2)
@[go_sem] theorem c2J (a b : List c6) : a1Q [(false, [.sl false [.i .i64 0, .s []] (a.map c6.cells)]), (false, [.sl false [.i .i64 0, .s []] (b.map c6.cells)])] = some (True, [], .one (false, [.b (decide (a = b))])) := f7 _ (by rintro ⟨_, _⟩ ⟨_, _⟩ h; simp at h; simp_all) (a, b)
theorem a9k : OkC Tryz.prog 166 a1Q := f8 _
def a8L : ACode := q' ([o' 2 (.box 1 (.t 0)), o' 3 (.box 1 (.t 1)), b' 4 false]) (.seq (q' ([f' 5 0 2, l' 6 5, f' 7 0 3, l' 8 7, c' 9 166 [6, 8], o' 10 (.not (.t 9))]) (.cond (.t
 10) (q' ([b' 4 false]) .ret) .skip)) (q' ([b' 4 true]) .ret))
theorem b7D : cmp Tryz.prog Tryz.f96 = some a8L := by kernel_rfl
theorem c0f (a : c9) (b : c9) : A0m Tryz.prog 96 [(true, [.sl false [.i .i64 0, .s []] (a.V.map c6.cells)]), (true, [.sl false [.i .i64 0, .s []] (b.V.map c6.cells)])] [] (.one (false, [.b (decide (a = b))])) := by
 refine spec_of2 false false none Tryz.func96 b7D (rvs := [.t 4]) (hΓ := mkCtx_ok (deep := false) (l := [(166, [], a1Q)]) ⟨a9k, trivial⟩) (h := ?_)
 intro hb hE
 simp only [go_sem] at hb
 simp only [a8L, x']
 (try refine A2Z ?_); simp only [go_sem]; (repeat' first | apply CJ.mk | intro hc); all_goals try ((repeat' first | apply And.intro | intro hs) <;> (try simp only [go_sem, Bool.and_eq_false_iff] at hs) <;> omega)
 all_goals (cases a; cases b; simp_all)
noncomputable def a5N : CT := j7 (fun (x : c9 × c9) => c0f x.1 x.2)
@[go_sem] theorem c6T (x0 x1 : List c6) : a5N [(true, [.sl false [.i .i64 0, .s []] (x0.map c6.cells)]), (true, [.sl false [.i .i64 0, .s []] (x1.map c6.cells)])] = some (True, [], .one (false, [.b (decide ((c9.mk x0) = (c9.mk x1)))])) := f7 _ (by rintro ⟨⟨_⟩, ⟨_⟩⟩ ⟨⟨_⟩, ⟨_⟩⟩ h; simp at h; simp_all) ((c9.mk x0), (c9.mk x1))
theorem b3i : OkC Tryz.prog 96 a5N := f8 _
end Go.Aw
