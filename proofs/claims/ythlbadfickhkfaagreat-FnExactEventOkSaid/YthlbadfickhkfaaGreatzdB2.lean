/- Terms and rows: sizes, copies, equalities. No condition. -/
import Derived.Test.YthlbadfickhkfaaGreatzdB0
namespace Go.Aw
open Go.Proofs
attribute [local irreducible] aft blk lpK retK AW A0l
set_option linter.unusedVariables false
set_option linter.unusedSimpArgs false
set_option maxRecDepth 100000
def o6 (x : GTerm) : Nat := x.Var.length + l9 x.Val
def a5R : ACode := q' ([o' 2 (.box 3 (.t 0)), z' 4 0]) (q' ([m' 5 1, f' 6 0 2, l' 7 6, o' 8 (.lens (.t 7)), o' 9 (.bin .sub (.t 5) (.t 8)), m' 1 9]) (.seq (q' ([m' 10 1, o' 11
 (.bin .lss (.t 10) (k' 0))]) (.cond (.t 11) (q' ([o' 4 (.mov (.k (.v false [.c (.i .i64 (-1))])))]) .ret) .skip)) (q' ([f' 12 1 2, e' 13 2 12, m' 14 1, c' 15
 241 [13, 14], m' 1 15]) (.seq (q' ([m' 16 1, o' 17 (.bin .lss (.t 16) (k' 0))]) (.cond (.t 17) (q' ([o' 4 (.mov (.k (.v false [.c (.i .i64 (-1))])))]) .ret)
 .skip)) (q' ([m' 18 1, m' 4 18]) .ret)))))
theorem b3u : cmp Tryz.prog Tryz.f263 = some a5R := by kernel_rfl
theorem b5r (a : GTerm) (left : Int) (hpre : 0 ≤ left ∧ left ≤ 1048576) : A0l Tryz.prog 263 [(true, [.s a.Var, .i .i64 a.Val.N, .s a.Val.S]), (false, [.i .i64 left])] [] (.one (false, [.i .i64 (szR left (o6 a : Nat))])) := by
 refine spec_of2 false false none Tryz.func263 b3u (rvs := [.t 4]) (hΓ := mkCtx_ok (deep := false) (l := [(241, [], y5)]) ⟨a2J, trivial⟩) (h := ?_)
 intro hb hE
 simp only [go_sem] at hb
 simp only [a5R, x']
 (try refine A2V ?_); simp only [go_sem]; (repeat' first | apply CJ.mk | intro hc); all_goals try ((repeat' first | apply And.intro | intro hs) <;> (try simp only [go_sem, Bool.and_eq_false_iff] at hs) <;> omega)
 all_goals ((repeat (simp (disch := omega) only [t8] at *)) <;> (try simp only [szR, o6] at *) <;> (first | omega | (split <;> omega)))
noncomputable def a0C : CT := n8 (fun (x : GTerm × Int) h => b5r x.1 x.2 h)
@[go_sem] theorem c2c (a_Var : List UInt8) (a_Val_N : Int) (a_Val_S : List UInt8) (left : Int) : a0C [(true, [.s a_Var, .i .i64 a_Val_N, .s a_Val_S]), (false, [.i .i64 left])] = some (0 ≤ left ∧ left ≤ 1048576, [], .one (false, [.i .i64 (szR left (o6 (GTerm.mk a_Var (GValue.mk a_Val_N a_Val_S)) : Nat))])) := d3 _ (by rintro ⟨⟨_, ⟨_, _⟩⟩, _⟩ ⟨⟨_, ⟨_, _⟩⟩, _⟩ h; simp at h; simp_all) ((GTerm.mk a_Var (GValue.mk a_Val_N a_Val_S)), left)
theorem a3Q : OkC Tryz.prog 263 a0C := d4 _
def a5a : ACode := q' ([z' 4 0]) (q' ([m' 6 1, m' 7 0, n' 8 7, o' 9 (.bin .sub (.t 6) (.t 8)), m' 1 9]) (.seq (q' ([m' 10 1, o' 11 (.bin .lss (.t 10) (k' 0))]) (.cond (.t 11) (q'
 ([o' 4 (.mov (.k (.v false [.c (.i .i64 (-1))])))]) .ret) .skip)) (.seq (q' ([z' 5 0]) (.block 0 (.loop (.seq (q' ([m' 12 5, m' 13 0, n' 14 13, r' 15 12 14])
 (.cond (.t 15) .skip (.exit 0))) (.seq (.block 1 (q' ([m' 18 0, m' 19 5, i' 20 3 18 19, e' 21 3 20, m' 22 1, c' 23 263 [21, 22], m' 1 23]) (q' ([m' 24 1, o'
 25 (.bin .lss (.t 24) (k' 0))]) (.cond (.t 25) (q' ([o' 4 (.mov (.k (.v false [.c (.i .i64 (-1))])))]) .ret) .skip)))) (g' [m' 16 5, a' 17 16, m' 5 17]))))))
 (q' ([m' 26 1, m' 4 26]) .ret))))
theorem b1P : cmp Tryz.prog Tryz.f178 = some a5a := by kernel_rfl
theorem b4b (a : List GTerm) (left : Int) (hpre : 0 ≤ left ∧ left ≤ 1048576) : A0l Tryz.prog 178 [(false, [.sl false [.s [], .i .i64 0, .s []] (a.map GTerm.cells)]), (false, [.i .i64 left])] [] (.one (false, [.i .i64 (szR left ((a.length + j5 o6 a) : Nat))])) := by
 refine spec_of2 false false none Tryz.func178 b1P (rvs := [.t 4]) (hΓ := mkCtx_ok (deep := false) (l := [(263, [], a0C)]) ⟨a3Q, trivial⟩) (h := ?_)
 intro hb hE
 simp only [go_sem] at hb
 simp only [a5a, x']
 (try refine A2V ?_); simp only [go_sem]; (repeat' first | apply CJ.mk | intro hc); all_goals try ((repeat' first | apply And.intro | intro hs) <;> (try simp only [go_sem, Bool.and_eq_false_iff] at hs) <;> omega)
 ·all_goals ((repeat (simp (disch := omega) only [t8] at *)) <;> (try simp only [szR, szR] at *) <;> (first | omega | (split <;> omega)))
 have hw := t8 (l := left) (n := a.length) (by omega) (by omega) (by omega) (by omega)
 rw [hw] at hc
 refine aw_loop2 false [] [0] [] [] (fun i : {i : Nat // i ≤ a.length ∧ (a.length : Int) + (j5 o6 (a.take i) : Nat) ≤ left} => [(5, slV (.i .i64 i.1)), (1, slV (.i .i64 (left - a.length - (j5 o6 (a.take i.1) : Nat))))]) (fun i => []) (fun i => []) (fun i => a.length - i.1) (⟨0, by simp only [List.take_zero, a4c]; omega⟩) _ rfl ?_ ?_
 ·simp only [go_sem, hw]
  all_goals first | omega | ((repeat' apply And.intro) <;> first | omega | rfl | skip)
 intro S0 hS0 i
 simp only [go_sem, hw] at hS0
 obtain ⟨i, hi, ht⟩ := i
 (try refine A2V ?_); simp only [go_sem, hw, hS0]; (repeat' first | apply CJ.mk | intro hc); all_goals try ((repeat' first | apply And.intro | intro hs) <;> (try simp only [go_sem, Bool.and_eq_false_iff] at hs) <;> omega)
 ·have h1 := i6 o6 (default : GTerm) (show i < a.length by omega)
  have h2 := t7 o6 a (i + 1)
  all_goals ((repeat (simp (disch := omega) only [t8] at *)) <;> (try simp only [szR, szR] at *) <;> (first | omega | (split <;> omega)))
 ·have h1 := i6 o6 (default : GTerm) (show i < a.length by omega)
  (refine lpK_n2 (⟨i + 1, by omega, by unfold szR at hc; split at hc <;> omega⟩) _ rfl ?_; simp only [go_sem, hw, hS0]; first | done | ((repeat' apply And.intro) <;> first | omega | (refine w64 ?_ ?_ ?_ <;> omega) | rfl | skip))
  rw [h1]
  unfold szR at hc ⊢
  split at hc <;> omega
 ·have h1 := a6G o6 (show ¬ i < a.length by omega)
  all_goals ((repeat (simp (disch := omega) only [t8] at *)) <;> (try simp only [szR, szR] at *) <;> (first | omega | (split <;> omega)))
 all_goals all_goals ((repeat (simp (disch := omega) only [t8] at *)) <;> (try simp only [szR, szR] at *) <;> (first | omega | (split <;> omega)))
noncomputable def a2b : CT := n8 (fun (x : (List GTerm) × Int) h => b4b x.1 x.2 h)
@[go_sem] theorem c0K (a : List GTerm) (left : Int) : a2b [(false, [.sl false [.s [], .i .i64 0, .s []] (a.map GTerm.cells)]), (false, [.i .i64 left])] = some (0 ≤ left ∧ left ≤ 1048576, [], .one (false, [.i .i64 (szR left ((a.length + j5 o6 a) : Nat))])) := d3 _ (by rintro ⟨_, _⟩ ⟨_, _⟩ h; simp at h; simp_all) (a, left)
theorem a8P : OkC Tryz.prog 178 a2b := d4 _
def a5W : ACode := q' ([o' 1 (.box 3 (.t 0)), w' 2 [.s, .i .i64, .s]]) (q' ([w' 3 [.s, .i .i64, .s]]) (q' ([f' 4 0 1, l' 5 4, f' 6 0 3, s' 1 6 5]) (q' ([f' 7 1 1, e' 8 2 7, c' 9
 243 [8], f' 10 1 3, s' 2 10 9]) (q' ([e' 11 3 3, s' 3 2 11]) .ret))))
theorem b3z : cmp Tryz.prog Tryz.f272 = some a5W := by kernel_rfl
theorem b5w (a : GTerm) : A0l Tryz.prog 272 [(true, [.s a.Var, .i .i64 a.Val.N, .s a.Val.S])] [] (.one (true, [.s a.Var, .i .i64 a.Val.N, .s a.Val.S])) := by
 refine spec_of2 true false none Tryz.func272 b3z (rvs := [.c 2 true 3]) (hΓ := mkCtx_ok (deep := true) (l := [(243, [], y6)]) ⟨a2K, trivial⟩) (h := ?_)
 intro hb hE
 simp only [go_sem] at hb
 simp only [a5W, x']
 (try refine A2V ?_); simp only [go_sem]; (repeat' first | apply CJ.mk | intro hc); all_goals try ((repeat' first | apply And.intro | intro hs) <;> (try simp only [go_sem, Bool.and_eq_false_iff] at hs) <;> omega)
noncomputable def a0E : CT := c8 (fun (x : GTerm) => b5w x)
@[go_sem] theorem c2h (a_Var : List UInt8) (a_Val_N : Int) (a_Val_S : List UInt8) : a0E [(true, [.s a_Var, .i .i64 a_Val_N, .s a_Val_S])] = some (True, [], .one (true, [.s ((GTerm.mk a_Var (GValue.mk a_Val_N a_Val_S)).Var), .i .i64 (((GTerm.mk a_Var (GValue.mk a_Val_N a_Val_S)).Val).N), .s (((GTerm.mk a_Var (GValue.mk a_Val_N a_Val_S)).Val).S)])) := c4 _ (by rintro ⟨_, ⟨_, _⟩⟩ ⟨_, ⟨_, _⟩⟩ h; simp at h; simp_all) (GTerm.mk a_Var (GValue.mk a_Val_N a_Val_S))
theorem a3S : OkC Tryz.prog 272 a0E := c5 _
def a5f : ACode := q' ([o' 2 (.mov (.k (.v false [.nl [.s [], .i .i64 0, .s []]])))]) (q' ([m' 5 0, n' 6 5, o' 7 (.mks 3 40 [.s, .i .i64, .s] (.t 6) (.t 6)), m' 3 7]) (.seq (q'
 ([z' 4 0]) (.block 0 (.loop (.seq (q' ([m' 8 4, m' 9 0, n' 10 9, r' 11 8 10]) (.cond (.t 11) .skip (.exit 0))) (.seq (.block 1 (g' [m' 14 3, m' 15 4, m' 16 0,
 m' 17 4, i' 18 3 16 17, e' 19 3 18, c' 20 272 [19], i' 21 3 14 15, s' 3 21 20])) (g' [m' 12 4, a' 13 12, m' 4 13])))))) (q' ([m' 22 3, m' 2 22]) .ret)))
theorem b1U : cmp Tryz.prog Tryz.f189 = some a5f := by kernel_rfl
theorem b4g (a : List GTerm) (hpre : (((a.length + j5 o6 a) : Nat) : Int) ≤ 1048576) : A0l Tryz.prog 189 [(false, [.sl false [.s [], .i .i64 0, .s []] (a.map GTerm.cells)])] [] (.one (false, [.sl true [.s [], .i .i64 0, .s []] (a.map GTerm.cells)])) := by
 refine spec_of2 true false none Tryz.func189 b1U (rvs := [.t 2]) (hΓ := mkCtx_ok (deep := true) (l := [(272, [], a0E)]) ⟨a3S, trivial⟩) (h := ?_)
 intro hb hE
 simp only [go_sem] at hb
 simp only [a5f, x']
 (try refine A2V ?_); simp only [go_sem, a3m]; (repeat' first | apply CJ.mk | intro hc); all_goals try ((repeat' first | apply And.intro | intro hs) <;> (try simp only [go_sem, Bool.and_eq_false_iff] at hs) <;> omega)
 refine aw_loop2 true [] [0, 3] [] [] (fun i : {p : Nat × (List GTerm) // p.1 ≤ a.length ∧ p.2.length = a.length ∧ p.2.take p.1 = a.take p.1} => [(4, slV (.i .i64 i.1.1))]) (fun i => []) (fun i => [(896, [.s [], .i .i64 0, .s []], i.1.2.map GTerm.cells)]) (fun i => a.length - i.1.1) (⟨(0, List.replicate a.length default), by simp⟩) _ rfl ?_ ?_
 ·simp only [go_sem, a3m]
  all_goals first | omega | ((repeat' apply And.intro) <;> first | omega | rfl | skip)
 intro S0 hS0 i
 simp only [go_sem, a3m] at hS0
 obtain ⟨⟨i, L⟩, hi, hl, ht⟩ := i
 simp only at hi hl ht
 (try refine A2V ?_); simp only [go_sem, a3m, hS0]; (repeat' first | apply CJ.mk | intro hc); all_goals try ((repeat' first | apply And.intro | intro hs) <;> (try simp only [go_sem, Bool.and_eq_false_iff] at hs) <;> omega)
 ·(refine lpK_n2 (⟨(i + 1, L.set i (a.getD i default)), by simp only; omega, by simp [hl], u3 hl ht (by omega)⟩) _ rfl ?_; simp only [go_sem, a3m, hS0]; first | done | ((repeat' apply And.intro) <;> first | omega | (refine w64 ?_ ?_ ?_ <;> omega) | rfl | skip))
 ·obtain rfl := o5 hl ht (by omega)
  rfl
 all_goals trace_state
noncomputable def a2f : CT := n8 (fun (x : (List GTerm)) h => b4g x h)
@[go_sem] theorem c0P (a : List GTerm) : a2f [(false, [.sl false [.s [], .i .i64 0, .s []] (a.map GTerm.cells)])] = some ((((a.length + j5 o6 a) : Nat) : Int) ≤ 1048576, [], .one (false, [.sl true [.s [], .i .i64 0, .s []] (a.map GTerm.cells)])) := d3 _ (by intro x y h; simp at h; simp_all) a
theorem a8T : OkC Tryz.prog 189 a2f := d4 _
def a5M : ACode := q' ([o' 2 (.box 3 (.t 0)), o' 3 (.box 3 (.t 1)), b' 4 false]) (.seq (q' ([f' 5 0 2, l' 6 5, f' 7 0 3, l' 8 7, o' 9 (.bin .neq (.t 6) (.t 8))]) (.cond (.t 9) (q'
 ([b' 4 false]) .ret) .skip)) (.seq (q' ([f' 10 1 2, e' 11 2 10, f' 12 1 3, e' 13 2 12, c' 14 247 [11, 13], o' 15 (.not (.t 14))]) (.cond (.t 15) (q' ([b' 4
 false]) .ret) .skip)) (q' ([b' 4 true]) .ret)))
theorem b3p : cmp Tryz.prog Tryz.f289 = some a5M := by kernel_rfl
theorem b5m (a : GTerm) (b : GTerm) : A0l Tryz.prog 289 [(true, [.s a.Var, .i .i64 a.Val.N, .s a.Val.S]), (true, [.s b.Var, .i .i64 b.Val.N, .s b.Val.S])] [] (.one (false, [.b (decide (a = b))])) := by
 refine spec_of2 false false none Tryz.func289 b3p (rvs := [.t 4]) (hΓ := mkCtx_ok (deep := false) (l := [(247, [], y4)]) ⟨a2I, trivial⟩) (h := ?_)
 intro hb hE
 simp only [go_sem] at hb
 simp only [a5M, x']
 (try refine A2V ?_); simp only [go_sem]; (repeat' first | apply CJ.mk | intro hc); all_goals try ((repeat' first | apply And.intro | intro hs) <;> (try simp only [go_sem, Bool.and_eq_false_iff] at hs) <;> omega)
 all_goals (cases a; cases b; simp_all)
noncomputable def a0A : CT := c8 (fun (x : GTerm × GTerm) => b5m x.1 x.2)
@[go_sem] theorem c1X (a_Var : List UInt8) (a_Val_N : Int) (a_Val_S : List UInt8) (b_Var : List UInt8) (b_Val_N : Int) (b_Val_S : List UInt8) : a0A [(true, [.s a_Var, .i .i64 a_Val_N, .s a_Val_S]), (true, [.s b_Var, .i .i64 b_Val_N, .s b_Val_S])] = some (True, [], .one (false, [.b (decide ((GTerm.mk a_Var (GValue.mk a_Val_N a_Val_S)) = (GTerm.mk b_Var (GValue.mk b_Val_N b_Val_S))))])) := c4 _ (by rintro ⟨⟨_, ⟨_, _⟩⟩, ⟨_, ⟨_, _⟩⟩⟩ ⟨⟨_, ⟨_, _⟩⟩, ⟨_, ⟨_, _⟩⟩⟩ h; simp at h; simp_all) ((GTerm.mk a_Var (GValue.mk a_Val_N a_Val_S)), (GTerm.mk b_Var (GValue.mk b_Val_N b_Val_S)))
theorem a3O : OkC Tryz.prog 289 a0A := c5 _
def a4V : ACode := q' ([b' 4 false]) (.seq (q' ([m' 6 0, n' 7 6, m' 8 1, n' 9 8, o' 10 (.bin .neq (.t 7) (.t 9))]) (.cond (.t 10) (q' ([b' 4 false]) .ret) .skip)) (.seq (q' ([z' 5
 0]) (.block 0 (.loop (.seq (q' ([m' 11 5, m' 12 0, n' 13 12, r' 14 11 13]) (.cond (.t 14) .skip (.exit 0))) (.seq (.block 1 (.seq (.reg true [m' 17 0, m' 18
 5, i' 19 3 17 18, e' 20 3 19, m' 21 1, m' 22 5, i' 23 3 21 22, e' 24 3 23, c' 25 289 [20, 24], o' 26 (.not (.t 25))]) (.cond (.t 26) (q' ([b' 4 false]) .ret)
 .skip))) (g' [m' 15 5, a' 16 15, m' 5 16])))))) (q' ([b' 4 true]) .ret)))
theorem b1K : cmp Tryz.prog Tryz.f205 = some a4V := by kernel_rfl
theorem b3W (a : List GTerm) (b : List GTerm) : A0l Tryz.prog 205 [(false, [.sl false [.s [], .i .i64 0, .s []] (a.map GTerm.cells)]), (false, [.sl false [.s [], .i .i64 0, .s []] (b.map GTerm.cells)])] [] (.one (false, [.b (decide (a = b))])) := by
 refine spec_of2 false false none Tryz.func205 b1K (rvs := [.t 4]) (hΓ := mkCtx_ok (deep := false) (l := [(289, [], a0A)]) ⟨a3O, trivial⟩) (h := ?_)
 intro hb hE
 simp only [go_sem] at hb
 simp only [a4V, x']
 (try refine A2V ?_); simp only [go_sem]; (repeat' first | apply CJ.mk | intro hc); all_goals try ((repeat' first | apply And.intro | intro hs) <;> (try simp only [go_sem, Bool.and_eq_false_iff] at hs) <;> omega)
 ·symm
  rw [decide_eq_false_iff_not]
  rintro rfl
  simp at hc
 have hl : a.length = b.length := by simpa [Int.ofNat_inj] using hc
 refine aw_loop2 false [] [0, 1] [] [] (fun i : {i : Nat // i ≤ a.length ∧ a.take i = b.take i} => [(5, slV (.i .i64 i.1))]) (fun i => []) (fun i => []) (fun i => a.length - i.1) (⟨0, by simp⟩) _ rfl ?_ ?_
 ·simp only [go_sem]
  all_goals first | omega | ((repeat' apply And.intro) <;> first | omega | rfl | skip)
 intro S0 hS0 i
 simp only [go_sem] at hS0
 obtain ⟨i, hi, ht⟩ := i
 (try refine A2V ?_); simp only [go_sem, hS0]; (repeat' first | apply CJ.mk | intro hc); all_goals try ((repeat' first | apply And.intro | intro hs) <;> (try simp only [go_sem, Bool.and_eq_false_iff] at hs) <;> omega)
 ·exact (decide_eq_false (a2m default (i := i) (by simpa using hc))).symm
 ·(refine lpK_n2 (⟨i + 1, by omega, z7 ht (by omega) (by omega) (d := default) (by simpa using hc)⟩) _ rfl ?_; simp only [go_sem, hS0]; first | done | ((repeat' apply And.intro) <;> first | omega | (refine w64 ?_ ?_ ?_ <;> omega) | rfl | skip))
 ·exact (decide_eq_true (o5 hl ht (by omega))).symm
 all_goals trace_state
noncomputable def a1X : CT := c8 (fun (x : (List GTerm) × (List GTerm)) => b3W x.1 x.2)
@[go_sem] theorem c0F (a : List GTerm) (b : List GTerm) : a1X [(false, [.sl false [.s [], .i .i64 0, .s []] (a.map GTerm.cells)]), (false, [.sl false [.s [], .i .i64 0, .s []] (b.map GTerm.cells)])] = some (True, [], .one (false, [.b (decide (a = b))])) := c4 _ (by rintro ⟨_, _⟩ ⟨_, _⟩ h; simp at h; simp_all) (a, b)
theorem a8L : OkC Tryz.prog 205 a1X := c5 _
def a3t : ACode := q' ([b' 4 false]) (.seq (q' ([m' 6 0, n' 7 6, m' 8 1, n' 9 8, o' 10 (.bin .neq (.t 7) (.t 9))]) (.cond (.t 10) (q' ([b' 4 false]) .ret) .skip)) (.seq (q' ([z' 5
 0]) (.block 0 (.loop (.seq (q' ([m' 11 5, m' 12 0, n' 13 12, r' 14 11 13]) (.cond (.t 14) .skip (.exit 0))) (.seq (.block 1 (.seq (.reg true [m' 17 0, m' 18
 5, i' 19 2 17 18, e' 20 2 19, m' 21 1, m' 22 5, i' 23 2 21 22, e' 24 2 23, c' 25 247 [20, 24], o' 26 (.not (.t 25))]) (.cond (.t 26) (q' ([b' 4 false]) .ret)
 .skip))) (g' [m' 15 5, a' 16 15, m' 5 16])))))) (q' ([b' 4 true]) .ret)))
theorem b0s : cmp Tryz.prog Tryz.f166 = some a3t := by kernel_rfl
theorem b2i (a : List GValue) (b : List GValue) : A0l Tryz.prog 166 [(false, [.sl false [.i .i64 0, .s []] (a.map GValue.cells)]), (false, [.sl false [.i .i64 0, .s []] (b.map GValue.cells)])] [] (.one (false, [.b (decide (a = b))])) := by
 refine spec_of2 false false none Tryz.func166 b0s (rvs := [.t 4]) (hΓ := mkCtx_ok (deep := false) (l := [(247, [], y4)]) ⟨a2I, trivial⟩) (h := ?_)
 intro hb hE
 simp only [go_sem] at hb
 simp only [a3t, x']
 (try refine A2V ?_); simp only [go_sem]; (repeat' first | apply CJ.mk | intro hc); all_goals try ((repeat' first | apply And.intro | intro hs) <;> (try simp only [go_sem, Bool.and_eq_false_iff] at hs) <;> omega)
 ·symm
  rw [decide_eq_false_iff_not]
  rintro rfl
  simp at hc
 have hl : a.length = b.length := by simpa [Int.ofNat_inj] using hc
 refine aw_loop2 false [] [0, 1] [] [] (fun i : {i : Nat // i ≤ a.length ∧ a.take i = b.take i} => [(5, slV (.i .i64 i.1))]) (fun i => []) (fun i => []) (fun i => a.length - i.1) (⟨0, by simp⟩) _ rfl ?_ ?_
 ·simp only [go_sem]
  all_goals first | omega | ((repeat' apply And.intro) <;> first | omega | rfl | skip)
 intro S0 hS0 i
 simp only [go_sem] at hS0
 obtain ⟨i, hi, ht⟩ := i
 (try refine A2V ?_); simp only [go_sem, hS0]; (repeat' first | apply CJ.mk | intro hc); all_goals try ((repeat' first | apply And.intro | intro hs) <;> (try simp only [go_sem, Bool.and_eq_false_iff] at hs) <;> omega)
 ·exact (decide_eq_false (a2m default (i := i) (by simpa using hc))).symm
 ·(refine lpK_n2 (⟨i + 1, by omega, z7 ht (by omega) (by omega) (d := default) (by simpa using hc)⟩) _ rfl ?_; simp only [go_sem, hS0]; first | done | ((repeat' apply And.intro) <;> first | omega | (refine w64 ?_ ?_ ?_ <;> omega) | rfl | skip))
 ·exact (decide_eq_true (o5 hl ht (by omega))).symm
 all_goals trace_state
noncomputable def a0T : CT := c8 (fun (x : (List GValue) × (List GValue)) => b2i x.1 x.2)
@[go_sem] theorem b9C (a : List GValue) (b : List GValue) : a0T [(false, [.sl false [.i .i64 0, .s []] (a.map GValue.cells)]), (false, [.sl false [.i .i64 0, .s []] (b.map GValue.cells)])] = some (True, [], .one (false, [.b (decide (a = b))])) := c4 _ (by rintro ⟨_, _⟩ ⟨_, _⟩ h; simp at h; simp_all) (a, b)
theorem a7M : OkC Tryz.prog 166 a0T := c5 _
def a7l : ACode := q' ([o' 2 (.box 1 (.t 0)), o' 3 (.box 1 (.t 1)), b' 4 false]) (.seq (q' ([f' 5 0 2, l' 6 5, f' 7 0 3, l' 8 7, c' 9 166 [6, 8], o' 10 (.not (.t 9))]) (.cond (.t
 10) (q' ([b' 4 false]) .ret) .skip)) (q' ([b' 4 true]) .ret))
theorem b4P : cmp Tryz.prog Tryz.f96 = some a7l := by kernel_rfl
theorem b6R (a : GRow) (b : GRow) : A0l Tryz.prog 96 [(true, [.sl false [.i .i64 0, .s []] (a.V.map GValue.cells)]), (true, [.sl false [.i .i64 0, .s []] (b.V.map GValue.cells)])] [] (.one (false, [.b (decide (a = b))])) := by
 refine spec_of2 false false none Tryz.func96 b4P (rvs := [.t 4]) (hΓ := mkCtx_ok (deep := false) (l := [(166, [], a0T)]) ⟨a7M, trivial⟩) (h := ?_)
 intro hb hE
 simp only [go_sem] at hb
 simp only [a7l, x']
 (try refine A2V ?_); simp only [go_sem]; (repeat' first | apply CJ.mk | intro hc); all_goals try ((repeat' first | apply And.intro | intro hs) <;> (try simp only [go_sem, Bool.and_eq_false_iff] at hs) <;> omega)
 all_goals (cases a; cases b; simp_all)
noncomputable def a4t : CT := c8 (fun (x : GRow × GRow) => b6R x.1 x.2)
@[go_sem] theorem c2X (a_V : List GValue) (b_V : List GValue) : a4t [(true, [.sl false [.i .i64 0, .s []] (a_V.map GValue.cells)]), (true, [.sl false [.i .i64 0, .s []] (b_V.map GValue.cells)])] = some (True, [], .one (false, [.b (decide ((GRow.mk a_V) = (GRow.mk b_V)))])) := c4 _ (by rintro ⟨⟨_⟩, ⟨_⟩⟩ ⟨⟨_⟩, ⟨_⟩⟩ h; simp at h; simp_all) ((GRow.mk a_V), (GRow.mk b_V))
theorem b1o : OkC Tryz.prog 96 a4t := c5 _
end Go.Aw
