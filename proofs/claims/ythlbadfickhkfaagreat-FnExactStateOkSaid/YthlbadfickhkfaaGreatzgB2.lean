/- Terms and rows: sizes, copies, equalities. No condition. -/
import Derived.Test.YthlbadfickhkfaaGreatzgB0
namespace Go.Aw
open Go.Proofs
attribute [local irreducible] aft blk lpK retK AW A0l
set_option linter.unusedVariables false
set_option linter.unusedSimpArgs false
set_option maxRecDepth 100000
def u5 (x : c4) : Nat := x.Var.length + s8 x.Val
def a7M : ACode := q' ([o' 2 (.box 3 (.t 0)), z' 4 0]) (q' ([m' 5 1, f' 6 0 2, l' 7 6, o' 8 (.lens (.t 7)), o' 9 (.bin .sub (.t 5) (.t 8)), m' 1 9]) (.seq (q' ([m' 10 1, o' 11
 (.bin .lss (.t 10) (k' 0))]) (.cond (.t 11) (q' ([o' 4 (.mov (.k (.v false [.c (.i .i64 (-1))])))]) .ret) .skip)) (q' ([f' 12 1 2, e' 13 2 12, m' 14 1, c' 15
 241 [13, 14], m' 1 15]) (.seq (q' ([m' 16 1, o' 17 (.bin .lss (.t 16) (k' 0))]) (.cond (.t 17) (q' ([o' 4 (.mov (.k (.v false [.c (.i .i64 (-1))])))]) .ret)
 .skip)) (q' ([m' 18 1, m' 4 18]) .ret)))))
theorem b6B : cmp Tryz.prog Tryz.f263 = some a7M := by kernel_rfl
theorem b8Y (a : c4) (left : Int) (hpre : 0 ≤ left ∧ left ≤ 1048576) : A0l Tryz.prog 263 [(true, [.s a.Var, .i .i64 a.Val.N, .s a.Val.S]), (false, [.i .i64 left])] [] (.one (false, [.i .i64 (szR left (u5 a : Nat))])) := by
 refine spec_of2 false false none Tryz.func263 b6B (rvs := [.t 4]) (hΓ := mkCtx_ok (deep := false) (l := [(241, [], a0C)]) ⟨a3W, trivial⟩) (h := ?_)
 intro hb hE
 simp only [go_sem] at hb
 simp only [a7M, x']
 (try refine A2V ?_); simp only [go_sem]; (repeat' first | apply CJ.mk | intro hc); all_goals try ((repeat' first | apply And.intro | intro hs) <;> (try simp only [go_sem, Bool.and_eq_false_iff] at hs) <;> omega)
 all_goals ((repeat (simp (disch := omega) only [t8] at *)) <;> (try simp only [szR, u5] at *) <;> (first | omega | (split <;> omega)))
noncomputable def a1s : CT := o6 (fun (x : c4 × Int) h => b8Y x.1 x.2 h)
@[go_sem] theorem c6y (x0 : List UInt8) (x1 : Int) (x2 : List UInt8) (x3 : Int) : a1s [(true, [.s x0, .i .i64 x1, .s x2]), (false, [.i .i64 x3])] = some (0 ≤ x3 ∧ x3 ≤ 1048576, [], .one (false, [.i .i64 (szR x3 (u5 (c4.mk x0 (c9.mk x1 x2)) : Nat))])) := i6 _ (by rintro ⟨⟨_, ⟨_, _⟩⟩, _⟩ ⟨⟨_, ⟨_, _⟩⟩, _⟩ h; simp at h; simp_all) ((c4.mk x0 (c9.mk x1 x2)), x3)
theorem a5m : OkC Tryz.prog 263 a1s := i7 _
def a6L : ACode := q' ([z' 4 0]) (q' ([m' 6 1, m' 7 0, n' 8 7, o' 9 (.bin .sub (.t 6) (.t 8)), m' 1 9]) (.seq (q' ([m' 10 1, o' 11 (.bin .lss (.t 10) (k' 0))]) (.cond (.t 11) (q'
 ([o' 4 (.mov (.k (.v false [.c (.i .i64 (-1))])))]) .ret) .skip)) (.seq (q' ([z' 5 0]) (.block 0 (.loop (.seq (q' ([m' 12 5, m' 13 0, n' 14 13, r' 15 12 14])
 (.cond (.t 15) .skip (.exit 0))) (.seq (.block 1 (q' ([m' 18 0, m' 19 5, i' 20 3 18 19, e' 21 3 20, m' 22 1, c' 23 263 [21, 22], m' 1 23]) (q' ([m' 24 1, o'
 25 (.bin .lss (.t 24) (k' 0))]) (.cond (.t 25) (q' ([o' 4 (.mov (.k (.v false [.c (.i .i64 (-1))])))]) .ret) .skip)))) (g' [m' 16 5, a' 17 16, m' 5 17]))))))
 (q' ([m' 26 1, m' 4 26]) .ret))))
theorem b4K : cmp Tryz.prog Tryz.f178 = some a6L := by kernel_rfl
theorem b7r (a : List c4) (left : Int) (hpre : 0 ≤ left ∧ left ≤ 1048576) : A0l Tryz.prog 178 [(false, [.sl false [.s [], .i .i64 0, .s []] (a.map c4.cells)]), (false, [.i .i64 left])] [] (.one (false, [.i .i64 (szR left ((a.length + l3 u5 a) : Nat))])) := by
 refine spec_of2 false false none Tryz.func178 b4K (rvs := [.t 4]) (hΓ := mkCtx_ok (deep := false) (l := [(263, [], a1s)]) ⟨a5m, trivial⟩) (h := ?_)
 intro hb hE
 simp only [go_sem] at hb
 simp only [a6L, x']
 (try refine A2V ?_); simp only [go_sem]; (repeat' first | apply CJ.mk | intro hc); all_goals try ((repeat' first | apply And.intro | intro hs) <;> (try simp only [go_sem, Bool.and_eq_false_iff] at hs) <;> omega)
 ·all_goals ((repeat (simp (disch := omega) only [t8] at *)) <;> (try simp only [szR, szR] at *) <;> (first | omega | (split <;> omega)))
 have hw := t8 (l := left) (n := a.length) (by omega) (by omega) (by omega) (by omega)
 rw [hw] at hc
 refine aw_loop2 false [] [0] [] [] (fun i : {i : Nat // i ≤ a.length ∧ (a.length : Int) + (l3 u5 (a.take i) : Nat) ≤ left} => [(5, slV (.i .i64 i.1)), (1, slV (.i .i64 (left - a.length - (l3 u5 (a.take i.1) : Nat))))]) (fun i => []) (fun i => []) (fun i => a.length - i.1) (⟨0, by simp only [List.take_zero, a1H]; omega⟩) _ rfl ?_ ?_
 ·simp only [go_sem, hw]
  all_goals first | omega | ((repeat' apply And.intro) <;> first | omega | rfl | skip)
 intro S0 hS0 i
 simp only [go_sem, hw] at hS0
 obtain ⟨i, hi, ht⟩ := i
 (try refine A2V ?_); simp only [go_sem, hw, hS0]; (repeat' first | apply CJ.mk | intro hc); all_goals try ((repeat' first | apply And.intro | intro hs) <;> (try simp only [go_sem, Bool.and_eq_false_iff] at hs) <;> omega)
 ·have h1 := j3 u5 (default : c4) (show i < a.length by omega)
  have h2 := u3 u5 a (i + 1)
  all_goals ((repeat (simp (disch := omega) only [t8] at *)) <;> (try simp only [szR, szR] at *) <;> (first | omega | (split <;> omega)))
 ·have h1 := j3 u5 (default : c4) (show i < a.length by omega)
  (refine lpK_n2 (⟨i + 1, by omega, by unfold szR at hc; split at hc <;> omega⟩) _ rfl ?_; simp only [go_sem, hw, hS0]; first | done | ((repeat' apply And.intro) <;> first | omega | (refine w64 ?_ ?_ ?_ <;> omega) | rfl | skip))
  rw [h1]
  unfold szR at hc ⊢
  split at hc <;> omega
 ·have h1 := a3y u5 (show ¬ i < a.length by omega)
  all_goals ((repeat (simp (disch := omega) only [t8] at *)) <;> (try simp only [szR, szR] at *) <;> (first | omega | (split <;> omega)))
 all_goals all_goals ((repeat (simp (disch := omega) only [t8] at *)) <;> (try simp only [szR, szR] at *) <;> (first | omega | (split <;> omega)))
noncomputable def a3i : CT := o6 (fun (x : (List c4) × Int) h => b7r x.1 x.2 h)
@[go_sem] theorem c4V (a : List c4) (x0 : Int) : a3i [(false, [.sl false [.s [], .i .i64 0, .s []] (a.map c4.cells)]), (false, [.i .i64 x0])] = some (0 ≤ x0 ∧ x0 ≤ 1048576, [], .one (false, [.i .i64 (szR x0 ((a.length + l3 u5 a) : Nat))])) := i6 _ (by rintro ⟨_, _⟩ ⟨_, _⟩ h; simp at h; simp_all) (a, x0)
theorem b1j : OkC Tryz.prog 178 a3i := i7 _
def a7S : ACode := q' ([o' 1 (.box 3 (.t 0)), w' 2 [.s, .i .i64, .s]]) (q' ([w' 3 [.s, .i .i64, .s]]) (q' ([f' 4 0 1, l' 5 4, f' 6 0 3, s' 1 6 5]) (q' ([f' 7 1 1, e' 8 2 7, c' 9
 243 [8], f' 10 1 3, s' 2 10 9]) (q' ([e' 11 3 3, s' 3 2 11]) .ret))))
theorem b6H : cmp Tryz.prog Tryz.f272 = some a7S := by kernel_rfl
theorem b9e (a : c4) : A0l Tryz.prog 272 [(true, [.s a.Var, .i .i64 a.Val.N, .s a.Val.S])] [] (.one (true, [.s a.Var, .i .i64 a.Val.N, .s a.Val.S])) := by
 refine spec_of2 true false none Tryz.func272 b6H (rvs := [.c 2 true 3]) (hΓ := mkCtx_ok (deep := true) (l := [(243, [], a0D)]) ⟨a3X, trivial⟩) (h := ?_)
 intro hb hE
 simp only [go_sem] at hb
 simp only [a7S, x']
 (try refine A2V ?_); simp only [go_sem]; (repeat' first | apply CJ.mk | intro hc); all_goals try ((repeat' first | apply And.intro | intro hs) <;> (try simp only [go_sem, Bool.and_eq_false_iff] at hs) <;> omega)
noncomputable def a1u : CT := i5 (fun (x : c4) => b9e x)
@[go_sem] theorem c6E (x0 : List UInt8) (x1 : Int) (x2 : List UInt8) : a1u [(true, [.s x0, .i .i64 x1, .s x2])] = some (True, [], .one (true, [.s ((c4.mk x0 (c9.mk x1 x2)).Var), .i .i64 (((c4.mk x0 (c9.mk x1 x2)).Val).N), .s (((c4.mk x0 (c9.mk x1 x2)).Val).S)])) := f7 _ (by rintro ⟨_, ⟨_, _⟩⟩ ⟨_, ⟨_, _⟩⟩ h; simp at h; simp_all) (c4.mk x0 (c9.mk x1 x2))
theorem a5o : OkC Tryz.prog 272 a1u := f8 _
def a6R : ACode := q' ([o' 2 (.mov (.k (.v false [.nl [.s [], .i .i64 0, .s []]])))]) (q' ([m' 5 0, n' 6 5, o' 7 (.mks 3 40 [.s, .i .i64, .s] (.t 6) (.t 6)), m' 3 7]) (.seq (q'
 ([z' 4 0]) (.block 0 (.loop (.seq (q' ([m' 8 4, m' 9 0, n' 10 9, r' 11 8 10]) (.cond (.t 11) .skip (.exit 0))) (.seq (.block 1 (g' [m' 14 3, m' 15 4, m' 16 0,
 m' 17 4, i' 18 3 16 17, e' 19 3 18, c' 20 272 [19], i' 21 3 14 15, s' 3 21 20])) (g' [m' 12 4, a' 13 12, m' 4 13])))))) (q' ([m' 22 3, m' 2 22]) .ret)))
theorem b4Q : cmp Tryz.prog Tryz.f189 = some a6R := by kernel_rfl
theorem b7x (a : List c4) (hpre : (((a.length + l3 u5 a) : Nat) : Int) ≤ 1048576) : A0l Tryz.prog 189 [(false, [.sl false [.s [], .i .i64 0, .s []] (a.map c4.cells)])] [] (.one (false, [.sl true [.s [], .i .i64 0, .s []] (a.map c4.cells)])) := by
 refine spec_of2 true false none Tryz.func189 b4Q (rvs := [.t 2]) (hΓ := mkCtx_ok (deep := true) (l := [(272, [], a1u)]) ⟨a5o, trivial⟩) (h := ?_)
 intro hb hE
 simp only [go_sem] at hb
 simp only [a6R, x']
 (try refine A2V ?_); simp only [go_sem, a4D]; (repeat' first | apply CJ.mk | intro hc); all_goals try ((repeat' first | apply And.intro | intro hs) <;> (try simp only [go_sem, Bool.and_eq_false_iff] at hs) <;> omega)
 refine aw_loop2 true [] [0, 3] [] [] (fun i : {p : Nat × (List c4) // p.1 ≤ a.length ∧ p.2.length = a.length ∧ p.2.take p.1 = a.take p.1} => [(4, slV (.i .i64 i.1.1))]) (fun i => []) (fun i => [(896, [.s [], .i .i64 0, .s []], i.1.2.map c4.cells)]) (fun i => a.length - i.1.1) (⟨(0, List.replicate a.length default), by simp⟩) _ rfl ?_ ?_
 ·simp only [go_sem, a4D]
  all_goals first | omega | ((repeat' apply And.intro) <;> first | omega | rfl | skip)
 intro S0 hS0 i
 simp only [go_sem, a4D] at hS0
 obtain ⟨⟨i, L⟩, hi, hl, ht⟩ := i
 simp only at hi hl ht
 (try refine A2V ?_); simp only [go_sem, a4D, hS0]; (repeat' first | apply CJ.mk | intro hc); all_goals try ((repeat' first | apply And.intro | intro hs) <;> (try simp only [go_sem, Bool.and_eq_false_iff] at hs) <;> omega)
 ·(refine lpK_n2 (⟨(i + 1, L.set i (a.getD i default)), by simp only; omega, by simp [hl], u4 hl ht (by omega)⟩) _ rfl ?_; simp only [go_sem, a4D, hS0]; first | done | ((repeat' apply And.intro) <;> first | omega | (refine w64 ?_ ?_ ?_ <;> omega) | rfl | skip))
 ·obtain rfl := n0 hl ht (by omega)
  rfl
 all_goals trace_state
noncomputable def a3n : CT := o6 (fun (x : (List c4)) h => b7x x h)
@[go_sem] theorem c5b (a : List c4) : a3n [(false, [.sl false [.s [], .i .i64 0, .s []] (a.map c4.cells)])] = some ((((a.length + l3 u5 a) : Nat) : Int) ≤ 1048576, [], .one (false, [.sl true [.s [], .i .i64 0, .s []] (a.map c4.cells)])) := i6 _ (by intro x y h; simp at h; simp_all) a
theorem b1o : OkC Tryz.prog 189 a3n := i7 _
def a7G : ACode := q' ([o' 2 (.box 3 (.t 0)), o' 3 (.box 3 (.t 1)), b' 4 false]) (.seq (q' ([f' 5 0 2, l' 6 5, f' 7 0 3, l' 8 7, o' 9 (.bin .neq (.t 6) (.t 8))]) (.cond (.t 9) (q'
 ([b' 4 false]) .ret) .skip)) (.seq (q' ([f' 10 1 2, e' 11 2 10, f' 12 1 3, e' 13 2 12, c' 14 247 [11, 13], o' 15 (.not (.t 14))]) (.cond (.t 15) (q' ([b' 4
 false]) .ret) .skip)) (q' ([b' 4 true]) .ret)))
theorem b6v : cmp Tryz.prog Tryz.f289 = some a7G := by kernel_rfl
theorem b8S (a : c4) (b : c4) : A0l Tryz.prog 289 [(true, [.s a.Var, .i .i64 a.Val.N, .s a.Val.S]), (true, [.s b.Var, .i .i64 b.Val.N, .s b.Val.S])] [] (.one (false, [.b (decide (a = b))])) := by
 refine spec_of2 false false none Tryz.func289 b6v (rvs := [.t 4]) (hΓ := mkCtx_ok (deep := false) (l := [(247, [], a0B)]) ⟨a3V, trivial⟩) (h := ?_)
 intro hb hE
 simp only [go_sem] at hb
 simp only [a7G, x']
 (try refine A2V ?_); simp only [go_sem]; (repeat' first | apply CJ.mk | intro hc); all_goals try ((repeat' first | apply And.intro | intro hs) <;> (try simp only [go_sem, Bool.and_eq_false_iff] at hs) <;> omega)
 all_goals (cases a; cases b; simp_all)
noncomputable def a1q : CT := i5 (fun (x : c4 × c4) => b8S x.1 x.2)
@[go_sem] theorem c6s (x0 : List UInt8) (x1 : Int) (x2 x3 : List UInt8) (x4 : Int) (x5 : List UInt8) : a1q [(true, [.s x0, .i .i64 x1, .s x2]), (true, [.s x3, .i .i64 x4, .s x5])] = some (True, [], .one (false, [.b (decide ((c4.mk x0 (c9.mk x1 x2)) = (c4.mk x3 (c9.mk x4 x5))))])) := f7 _ (by rintro ⟨⟨_, ⟨_, _⟩⟩, ⟨_, ⟨_, _⟩⟩⟩ ⟨⟨_, ⟨_, _⟩⟩, ⟨_, ⟨_, _⟩⟩⟩ h; simp at h; simp_all) ((c4.mk x0 (c9.mk x1 x2)), (c4.mk x3 (c9.mk x4 x5)))
theorem a5k : OkC Tryz.prog 289 a1q := f8 _
def a6F : ACode := q' ([b' 4 false]) (.seq (q' ([m' 6 0, n' 7 6, m' 8 1, n' 9 8, o' 10 (.bin .neq (.t 7) (.t 9))]) (.cond (.t 10) (q' ([b' 4 false]) .ret) .skip)) (.seq (q' ([z' 5
 0]) (.block 0 (.loop (.seq (q' ([m' 11 5, m' 12 0, n' 13 12, r' 14 11 13]) (.cond (.t 14) .skip (.exit 0))) (.seq (.block 1 (.seq (.reg true [m' 17 0, m' 18
 5, i' 19 3 17 18, e' 20 3 19, m' 21 1, m' 22 5, i' 23 3 21 22, e' 24 3 23, c' 25 289 [20, 24], o' 26 (.not (.t 25))]) (.cond (.t 26) (q' ([b' 4 false]) .ret)
 .skip))) (g' [m' 15 5, a' 16 15, m' 5 16])))))) (q' ([b' 4 true]) .ret)))
theorem b4E : cmp Tryz.prog Tryz.f205 = some a6F := by kernel_rfl
theorem b7l (a : List c4) (b : List c4) : A0l Tryz.prog 205 [(false, [.sl false [.s [], .i .i64 0, .s []] (a.map c4.cells)]), (false, [.sl false [.s [], .i .i64 0, .s []] (b.map c4.cells)])] [] (.one (false, [.b (decide (a = b))])) := by
 refine spec_of2 false false none Tryz.func205 b4E (rvs := [.t 4]) (hΓ := mkCtx_ok (deep := false) (l := [(289, [], a1q)]) ⟨a5k, trivial⟩) (h := ?_)
 intro hb hE
 simp only [go_sem] at hb
 simp only [a6F, x']
 (try refine A2V ?_); simp only [go_sem]; (repeat' first | apply CJ.mk | intro hc); all_goals try ((repeat' first | apply And.intro | intro hs) <;> (try simp only [go_sem, Bool.and_eq_false_iff] at hs) <;> omega)
 ·symm
  rw [decide_eq_false_iff_not]
  rintro rfl
  simp at hc
 have hl : a.length = b.length := by simpa [Int.ofNat_inj] using hc
 refine aw_loop2 false [] [0, 1] [] [] (fun i : {i : Nat // i ≤ a.length ∧ a.take i = b.take i} => [(5, slV (.i .i64 i.1))]) (fun i => []) (fun i => []) (fun i => a.length - i.1) (⟨0, by simp⟩) _ rfl ?_ ?_
 ·simp only [go_sem]
  all_goals first | omega | ((repeat' apply And.intro) <;> first | omega | rfl | skip)
 intro S0 hS0 i
 simp only [go_sem] at hS0
 obtain ⟨i, hi, ht⟩ := i
 (try refine A2V ?_); simp only [go_sem, hS0]; (repeat' first | apply CJ.mk | intro hc); all_goals try ((repeat' first | apply And.intro | intro hs) <;> (try simp only [go_sem, Bool.and_eq_false_iff] at hs) <;> omega)
 ·exact (decide_eq_false (a0m default (i := i) (by simpa using hc))).symm
 ·(refine lpK_n2 (⟨i + 1, by omega, v6 ht (by omega) (by omega) (d := default) (by simpa using hc)⟩) _ rfl ?_; simp only [go_sem, hS0]; first | done | ((repeat' apply And.intro) <;> first | omega | (refine w64 ?_ ?_ ?_ <;> omega) | rfl | skip))
 ·exact (decide_eq_true (n0 hl ht (by omega))).symm
 all_goals trace_state
noncomputable def a3d : CT := i5 (fun (x : (List c4) × (List c4)) => b7l x.1 x.2)
@[go_sem] theorem c4P (a b : List c4) : a3d [(false, [.sl false [.s [], .i .i64 0, .s []] (a.map c4.cells)]), (false, [.sl false [.s [], .i .i64 0, .s []] (b.map c4.cells)])] = some (True, [], .one (false, [.b (decide (a = b))])) := f7 _ (by rintro ⟨_, _⟩ ⟨_, _⟩ h; simp at h; simp_all) (a, b)
theorem b1e : OkC Tryz.prog 205 a3d := f8 _
def a4L : ACode := q' ([b' 4 false]) (.seq (q' ([m' 6 0, n' 7 6, m' 8 1, n' 9 8, o' 10 (.bin .neq (.t 7) (.t 9))]) (.cond (.t 10) (q' ([b' 4 false]) .ret) .skip)) (.seq (q' ([z' 5
 0]) (.block 0 (.loop (.seq (q' ([m' 11 5, m' 12 0, n' 13 12, r' 14 11 13]) (.cond (.t 14) .skip (.exit 0))) (.seq (.block 1 (.seq (.reg true [m' 17 0, m' 18
 5, i' 19 2 17 18, e' 20 2 19, m' 21 1, m' 22 5, i' 23 2 21 22, e' 24 2 23, c' 25 247 [20, 24], o' 26 (.not (.t 25))]) (.cond (.t 26) (q' ([b' 4 false]) .ret)
 .skip))) (g' [m' 15 5, a' 16 15, m' 5 16])))))) (q' ([b' 4 true]) .ret)))
theorem b2W : cmp Tryz.prog Tryz.f166 = some a4L := by kernel_rfl
theorem b5h (a : List c9) (b : List c9) : A0l Tryz.prog 166 [(false, [.sl false [.i .i64 0, .s []] (a.map c9.cells)]), (false, [.sl false [.i .i64 0, .s []] (b.map c9.cells)])] [] (.one (false, [.b (decide (a = b))])) := by
 refine spec_of2 false false none Tryz.func166 b2W (rvs := [.t 4]) (hΓ := mkCtx_ok (deep := false) (l := [(247, [], a0B)]) ⟨a3V, trivial⟩) (h := ?_)
 intro hb hE
 simp only [go_sem] at hb
 simp only [a4L, x']
 (try refine A2V ?_); simp only [go_sem]; (repeat' first | apply CJ.mk | intro hc); all_goals try ((repeat' first | apply And.intro | intro hs) <;> (try simp only [go_sem, Bool.and_eq_false_iff] at hs) <;> omega)
 ·symm
  rw [decide_eq_false_iff_not]
  rintro rfl
  simp at hc
 have hl : a.length = b.length := by simpa [Int.ofNat_inj] using hc
 refine aw_loop2 false [] [0, 1] [] [] (fun i : {i : Nat // i ≤ a.length ∧ a.take i = b.take i} => [(5, slV (.i .i64 i.1))]) (fun i => []) (fun i => []) (fun i => a.length - i.1) (⟨0, by simp⟩) _ rfl ?_ ?_
 ·simp only [go_sem]
  all_goals first | omega | ((repeat' apply And.intro) <;> first | omega | rfl | skip)
 intro S0 hS0 i
 simp only [go_sem] at hS0
 obtain ⟨i, hi, ht⟩ := i
 (try refine A2V ?_); simp only [go_sem, hS0]; (repeat' first | apply CJ.mk | intro hc); all_goals try ((repeat' first | apply And.intro | intro hs) <;> (try simp only [go_sem, Bool.and_eq_false_iff] at hs) <;> omega)
 ·exact (decide_eq_false (a0m default (i := i) (by simpa using hc))).symm
 ·(refine lpK_n2 (⟨i + 1, by omega, v6 ht (by omega) (by omega) (d := default) (by simpa using hc)⟩) _ rfl ?_; simp only [go_sem, hS0]; first | done | ((repeat' apply And.intro) <;> first | omega | (refine w64 ?_ ?_ ?_ <;> omega) | rfl | skip))
 ·exact (decide_eq_true (n0 hl ht (by omega))).symm
 all_goals trace_state
noncomputable def a1O : CT := i5 (fun (x : (List c9) × (List c9)) => b5h x.1 x.2)
@[go_sem] theorem c3A (a b : List c9) : a1O [(false, [.sl false [.i .i64 0, .s []] (a.map c9.cells)]), (false, [.sl false [.i .i64 0, .s []] (b.map c9.cells)])] = some (True, [], .one (false, [.b (decide (a = b))])) := f7 _ (by rintro ⟨_, _⟩ ⟨_, _⟩ h; simp at h; simp_all) (a, b)
theorem a9T : OkC Tryz.prog 166 a1O := f8 _
def a9p : ACode := q' ([o' 2 (.box 1 (.t 0)), o' 3 (.box 1 (.t 1)), b' 4 false]) (.seq (q' ([f' 5 0 2, l' 6 5, f' 7 0 3, l' 8 7, c' 9 166 [6, 8], o' 10 (.not (.t 9))]) (.cond (.t
 10) (q' ([b' 4 false]) .ret) .skip)) (q' ([b' 4 true]) .ret))
theorem b8o : cmp Tryz.prog Tryz.f96 = some a9p := by kernel_rfl
theorem c0J (a : d6) (b : d6) : A0l Tryz.prog 96 [(true, [.sl false [.i .i64 0, .s []] (a.V.map c9.cells)]), (true, [.sl false [.i .i64 0, .s []] (b.V.map c9.cells)])] [] (.one (false, [.b (decide (a = b))])) := by
 refine spec_of2 false false none Tryz.func96 b8o (rvs := [.t 4]) (hΓ := mkCtx_ok (deep := false) (l := [(166, [], a1O)]) ⟨a9T, trivial⟩) (h := ?_)
 intro hb hE
 simp only [go_sem] at hb
 simp only [a9p, x']
 (try refine A2V ?_); simp only [go_sem]; (repeat' first | apply CJ.mk | intro hc); all_goals try ((repeat' first | apply And.intro | intro hs) <;> (try simp only [go_sem, Bool.and_eq_false_iff] at hs) <;> omega)
 all_goals (cases a; cases b; simp_all)
noncomputable def a5U : CT := i5 (fun (x : d6 × d6) => c0J x.1 x.2)
@[go_sem] theorem c7C (x0 x1 : List c9) : a5U [(true, [.sl false [.i .i64 0, .s []] (x0.map c9.cells)]), (true, [.sl false [.i .i64 0, .s []] (x1.map c9.cells)])] = some (True, [], .one (false, [.b (decide ((d6.mk x0) = (d6.mk x1)))])) := f7 _ (by rintro ⟨⟨_⟩, ⟨_⟩⟩ ⟨⟨_⟩, ⟨_⟩⟩ h; simp at h; simp_all) ((d6.mk x0), (d6.mk x1))
theorem b4e : OkC Tryz.prog 96 a5U := f8 _
end Go.Aw
