/- Terms and rows: sizes, copies, equalities. No condition. -/
import Derived.Test.YthlbadfickhkfaaGreatzeB0
namespace Go.Aw
open Go.Proofs
attribute [local irreducible] aft blk lpK retK AW A0n
set_option linter.unusedVariables false
set_option linter.unusedSimpArgs false
set_option maxRecDepth 100000
def p6 (x : GTerm) : Nat := x.Var.length + b0z x.Val
def a6v : ACode := q' ([o' 2 (.box 3 (.t 0)), z' 4 0]) (q' ([m' 5 1, f' 6 0 2, l' 7 6, o' 8 (.lens (.t 7)), o' 9 (.bin .sub (.t 5) (.t 8)), m' 1 9]) (.seq (q' ([m' 10 1, o' 11
 (.bin .lss (.t 10) (k' 0))]) (.cond (.t 11) (q' ([o' 4 (.mov (.k (.v false [.c (.i .i64 (-1))])))]) .ret) .skip)) (q' ([f' 12 1 2, e' 13 2 12, m' 14 1, c' 15
 241 [13, 14], m' 1 15]) (.seq (q' ([m' 16 1, o' 17 (.bin .lss (.t 16) (k' 0))]) (.cond (.t 17) (q' ([o' 4 (.mov (.k (.v false [.c (.i .i64 (-1))])))]) .ret)
 .skip)) (q' ([m' 18 1, m' 4 18]) .ret)))))
theorem b4u : cmp Tryz.prog Tryz.f263 = some a6v := by kernel_rfl
theorem b6p (a : GTerm) (left : Int) (hpre : 0 ≤ left ∧ left ≤ 1048576) : A0n Tryz.prog 263 [(true, [.s a.Var, .i .i64 a.Val.N, .s a.Val.S]), (false, [.i .i64 left])] [] (.one (false, [.i .i64 (szR left (p6 a : Nat))])) := by
 refine spec_of2 false false none Tryz.func263 b4u (rvs := [.t 4]) (hΓ := mkCtx_ok (deep := false) (l := [(241, [], a2y)]) ⟨a9u, trivial⟩) (h := ?_)
 intro hb hE
 simp only [go_sem] at hb
 simp only [a6v, x']
 (try refine A2X ?_); simp only [go_sem]; (repeat' first | apply CJ.mk | intro hc); all_goals try ((repeat' first | apply And.intro | intro hs) <;> (try simp only [go_sem, Bool.and_eq_false_iff] at hs) <;> omega)
 all_goals ((repeat (simp (disch := omega) only [w7] at *)) <;> (try simp only [szR, p6] at *) <;> (first | omega | (split <;> omega)))
noncomputable def a0Z : CT := l9 (fun (x : GTerm × Int) h => b6p x.1 x.2 h)
@[go_sem] theorem c2Z (a_Var : List UInt8) (a_Val_N : Int) (a_Val_S : List UInt8) (left : Int) : a0Z [(true, [.s a_Var, .i .i64 a_Val_N, .s a_Val_S]), (false, [.i .i64 left])] = some (0 ≤ left ∧ left ≤ 1048576, [], .one (false, [.i .i64 (szR left (p6 (GTerm.mk a_Var (GValue.mk a_Val_N a_Val_S)) : Nat))])) := d5 _ (by rintro ⟨⟨_, ⟨_, _⟩⟩, _⟩ ⟨⟨_, ⟨_, _⟩⟩, _⟩ h; simp at h; simp_all) ((GTerm.mk a_Var (GValue.mk a_Val_N a_Val_S)), left)
theorem a4s : OkC Tryz.prog 263 a0Z := d6 _
def a5C : ACode := q' ([z' 4 0]) (q' ([m' 6 1, m' 7 0, n' 8 7, o' 9 (.bin .sub (.t 6) (.t 8)), m' 1 9]) (.seq (q' ([m' 10 1, o' 11 (.bin .lss (.t 10) (k' 0))]) (.cond (.t 11) (q'
 ([o' 4 (.mov (.k (.v false [.c (.i .i64 (-1))])))]) .ret) .skip)) (.seq (q' ([z' 5 0]) (.block 0 (.loop (.seq (q' ([m' 12 5, m' 13 0, n' 14 13, r' 15 12 14])
 (.cond (.t 15) .skip (.exit 0))) (.seq (.block 1 (q' ([m' 18 0, m' 19 5, i' 20 3 18 19, e' 21 3 20, m' 22 1, c' 23 263 [21, 22], m' 1 23]) (q' ([m' 24 1, o'
 25 (.bin .lss (.t 24) (k' 0))]) (.cond (.t 25) (q' ([o' 4 (.mov (.k (.v false [.c (.i .i64 (-1))])))]) .ret) .skip)))) (g' [m' 16 5, a' 17 16, m' 5 17]))))))
 (q' ([m' 26 1, m' 4 26]) .ret))))
theorem b2M : cmp Tryz.prog Tryz.f178 = some a5C := by kernel_rfl
theorem b5a (a : List GTerm) (left : Int) (hpre : 0 ≤ left ∧ left ≤ 1048576) : A0n Tryz.prog 178 [(false, [.sl false [.s [], .i .i64 0, .s []] (a.map GTerm.cells)]), (false, [.i .i64 left])] [] (.one (false, [.i .i64 (szR left ((a.length + d8 p6 a) : Nat))])) := by
 refine spec_of2 false false none Tryz.func178 b2M (rvs := [.t 4]) (hΓ := mkCtx_ok (deep := false) (l := [(263, [], a0Z)]) ⟨a4s, trivial⟩) (h := ?_)
 intro hb hE
 simp only [go_sem] at hb
 simp only [a5C, x']
 (try refine A2X ?_); simp only [go_sem]; (repeat' first | apply CJ.mk | intro hc); all_goals try ((repeat' first | apply And.intro | intro hs) <;> (try simp only [go_sem, Bool.and_eq_false_iff] at hs) <;> omega)
 · all_goals ((repeat (simp (disch := omega) only [w7] at *)) <;> (try simp only [szR, szR] at *) <;> (first | omega | (split <;> omega)))
 have hw := w7 (l := left) (n := a.length) (by omega) (by omega) (by omega) (by omega)
 rw [hw] at hc
 refine aw_loop2 false [] [0] [] [] (fun i : {i : Nat // i ≤ a.length ∧ (a.length : Int) + (d8 p6 (a.take i) : Nat) ≤ left} => [(5, slV (.i .i64 i.1)), (1, slV (.i .i64 (left - a.length - (d8 p6 (a.take i.1) : Nat))))]) (fun i => []) (fun i => []) (fun i => a.length - i.1) (⟨0, by simp only [List.take_zero, a4G]; omega⟩) _ rfl ?_ ?_
 · simp only [go_sem, hw]
  all_goals first | omega | ((repeat' apply And.intro) <;> first | omega | rfl | skip)
 intro S0 hS0 i
 simp only [go_sem, hw] at hS0
 obtain ⟨i, hi, ht⟩ := i
 (try refine A2X ?_); simp only [go_sem, hw, hS0]; (repeat' first | apply CJ.mk | intro hc); all_goals try ((repeat' first | apply And.intro | intro hs) <;> (try simp only [go_sem, Bool.and_eq_false_iff] at hs) <;> omega)
 · have h1 := f9 p6 (default : GTerm) (show i < a.length by omega)
  have h2 := o9 p6 a (i + 1)
  all_goals ((repeat (simp (disch := omega) only [w7] at *)) <;> (try simp only [szR, szR] at *) <;> (first | omega | (split <;> omega)))
 · have h1 := f9 p6 (default : GTerm) (show i < a.length by omega)
  (refine lpK_n2 (⟨i + 1, by omega, by unfold szR at hc; split at hc <;> omega⟩) _ rfl ?_; simp only [go_sem, hw, hS0]; first | done | ((repeat' apply And.intro) <;> first | omega | (refine w64 ?_ ?_ ?_ <;> omega) | rfl | skip))
  rw [h1]
  unfold szR at hc ⊢
  split at hc <;> omega
 · have h1 := a2O p6 (show ¬ i < a.length by omega)
  all_goals ((repeat (simp (disch := omega) only [w7] at *)) <;> (try simp only [szR, szR] at *) <;> (first | omega | (split <;> omega)))
 all_goals all_goals ((repeat (simp (disch := omega) only [w7] at *)) <;> (try simp only [szR, szR] at *) <;> (first | omega | (split <;> omega)))
noncomputable def a2x : CT := l9 (fun (x : (List GTerm) × Int) h => b5a x.1 x.2 h)
@[go_sem] theorem c1F (a : List GTerm) (left : Int) : a2x [(false, [.sl false [.s [], .i .i64 0, .s []] (a.map GTerm.cells)]), (false, [.i .i64 left])] = some (0 ≤ left ∧ left ≤ 1048576, [], .one (false, [.i .i64 (szR left ((a.length + d8 p6 a) : Nat))])) := d5 _ (by rintro ⟨_, _⟩ ⟨_, _⟩ h; simp at h; simp_all) (a, left)
theorem a9t : OkC Tryz.prog 178 a2x := d6 _
def a6A : ACode := q' ([o' 1 (.box 3 (.t 0)), w' 2 [.s, .i .i64, .s]]) (q' ([w' 3 [.s, .i .i64, .s]]) (q' ([f' 4 0 1, l' 5 4, f' 6 0 3, s' 1 6 5]) (q' ([f' 7 1 1, e' 8 2 7, c' 9
 243 [8], f' 10 1 3, s' 2 10 9]) (q' ([e' 11 3 3, s' 3 2 11]) .ret))))
theorem b4z : cmp Tryz.prog Tryz.f272 = some a6A := by kernel_rfl
theorem b6u (a : GTerm) : A0n Tryz.prog 272 [(true, [.s a.Var, .i .i64 a.Val.N, .s a.Val.S])] [] (.one (true, [.s a.Var, .i .i64 a.Val.N, .s a.Val.S])) := by
 refine spec_of2 true false none Tryz.func272 b4z (rvs := [.c 2 true 3]) (hΓ := mkCtx_ok (deep := true) (l := [(243, [], a2C)]) ⟨a9y, trivial⟩) (h := ?_)
 intro hb hE
 simp only [go_sem] at hb
 simp only [a6A, x']
 (try refine A2X ?_); simp only [go_sem]; (repeat' first | apply CJ.mk | intro hc); all_goals try ((repeat' first | apply And.intro | intro hs) <;> (try simp only [go_sem, Bool.and_eq_false_iff] at hs) <;> omega)
noncomputable def a1b : CT := d7 (fun (x : GTerm) => b6u x)
@[go_sem] theorem c3e (a_Var : List UInt8) (a_Val_N : Int) (a_Val_S : List UInt8) : a1b [(true, [.s a_Var, .i .i64 a_Val_N, .s a_Val_S])] = some (True, [], .one (true, [.s ((GTerm.mk a_Var (GValue.mk a_Val_N a_Val_S)).Var), .i .i64 (((GTerm.mk a_Var (GValue.mk a_Val_N a_Val_S)).Val).N), .s (((GTerm.mk a_Var (GValue.mk a_Val_N a_Val_S)).Val).S)])) := c4 _ (by rintro ⟨_, ⟨_, _⟩⟩ ⟨_, ⟨_, _⟩⟩ h; simp at h; simp_all) (GTerm.mk a_Var (GValue.mk a_Val_N a_Val_S))
theorem a4u : OkC Tryz.prog 272 a1b := c5 _
def a5G : ACode := q' ([o' 2 (.mov (.k (.v false [.nl [.s [], .i .i64 0, .s []]])))]) (q' ([m' 5 0, n' 6 5, o' 7 (.mks 3 40 [.s, .i .i64, .s] (.t 6) (.t 6)), m' 3 7]) (.seq (q'
 ([z' 4 0]) (.block 0 (.loop (.seq (q' ([m' 8 4, m' 9 0, n' 10 9, r' 11 8 10]) (.cond (.t 11) .skip (.exit 0))) (.seq (.block 1 (g' [m' 14 3, m' 15 4, m' 16 0,
 m' 17 4, i' 18 3 16 17, e' 19 3 18, c' 20 272 [19], i' 21 3 14 15, s' 3 21 20])) (g' [m' 12 4, a' 13 12, m' 4 13])))))) (q' ([m' 22 3, m' 2 22]) .ret)))
theorem b2Q : cmp Tryz.prog Tryz.f189 = some a5G := by kernel_rfl
theorem b5e (a : List GTerm) (hpre : (((a.length + d8 p6 a) : Nat) : Int) ≤ 1048576) : A0n Tryz.prog 189 [(false, [.sl false [.s [], .i .i64 0, .s []] (a.map GTerm.cells)])] [] (.one (false, [.sl true [.s [], .i .i64 0, .s []] (a.map GTerm.cells)])) := by
 refine spec_of2 true false none Tryz.func189 b2Q (rvs := [.t 2]) (hΓ := mkCtx_ok (deep := true) (l := [(272, [], a1b)]) ⟨a4u, trivial⟩) (h := ?_)
 intro hb hE
 simp only [go_sem] at hb
 simp only [a5G, x']
 (try refine A2X ?_); simp only [go_sem, a3R]; (repeat' first | apply CJ.mk | intro hc); all_goals try ((repeat' first | apply And.intro | intro hs) <;> (try simp only [go_sem, Bool.and_eq_false_iff] at hs) <;> omega)
 refine aw_loop2 true [] [0, 3] [] [] (fun i : {p : Nat × (List GTerm) // p.1 ≤ a.length ∧ p.2.length = a.length ∧ p.2.take p.1 = a.take p.1} => [(4, slV (.i .i64 i.1.1))]) (fun i => []) (fun i => [(896, [.s [], .i .i64 0, .s []], i.1.2.map GTerm.cells)]) (fun i => a.length - i.1.1) (⟨(0, List.replicate a.length default), by simp⟩) _ rfl ?_ ?_
 · simp only [go_sem, a3R]
  all_goals first | omega | ((repeat' apply And.intro) <;> first | omega | rfl | skip)
 intro S0 hS0 i
 simp only [go_sem, a3R] at hS0
 obtain ⟨⟨i, L⟩, hi, hl, ht⟩ := i
 simp only at hi hl ht
 (try refine A2X ?_); simp only [go_sem, a3R, hS0]; (repeat' first | apply CJ.mk | intro hc); all_goals try ((repeat' first | apply And.intro | intro hs) <;> (try simp only [go_sem, Bool.and_eq_false_iff] at hs) <;> omega)
 · (refine lpK_n2 (⟨(i + 1, L.set i (a.getD i default)), by simp only; omega, by simp [hl], m0 hl ht (by omega)⟩) _ rfl ?_; simp only [go_sem, a3R, hS0]; first | done | ((repeat' apply And.intro) <;> first | omega | (refine w64 ?_ ?_ ?_ <;> omega) | rfl | skip))
 · obtain rfl := l3 hl ht (by omega)
  rfl
 all_goals trace_state
noncomputable def a2B : CT := l9 (fun (x : (List GTerm)) h => b5e x h)
@[go_sem] theorem c1J (a : List GTerm) : a2B [(false, [.sl false [.s [], .i .i64 0, .s []] (a.map GTerm.cells)])] = some ((((a.length + d8 p6 a) : Nat) : Int) ≤ 1048576, [], .one (false, [.sl true [.s [], .i .i64 0, .s []] (a.map GTerm.cells)])) := d5 _ (by intro x y h; simp at h; simp_all) a
theorem a9x : OkC Tryz.prog 189 a2B := d6 _
def a6q : ACode := q' ([o' 2 (.box 3 (.t 0)), o' 3 (.box 3 (.t 1)), b' 4 false]) (.seq (q' ([f' 5 0 2, l' 6 5, f' 7 0 3, l' 8 7, o' 9 (.bin .neq (.t 6) (.t 8))]) (.cond (.t 9) (q'
 ([b' 4 false]) .ret) .skip)) (.seq (q' ([f' 10 1 2, e' 11 2 10, f' 12 1 3, e' 13 2 12, c' 14 247 [11, 13], o' 15 (.not (.t 14))]) (.cond (.t 15) (q' ([b' 4
 false]) .ret) .skip)) (q' ([b' 4 true]) .ret)))
theorem b4p : cmp Tryz.prog Tryz.f289 = some a6q := by kernel_rfl
theorem b6k (a : GTerm) (b : GTerm) : A0n Tryz.prog 289 [(true, [.s a.Var, .i .i64 a.Val.N, .s a.Val.S]), (true, [.s b.Var, .i .i64 b.Val.N, .s b.Val.S])] [] (.one (false, [.b (decide (a = b))])) := by
 refine spec_of2 false false none Tryz.func289 b4p (rvs := [.t 4]) (hΓ := mkCtx_ok (deep := false) (l := [(247, [], a2u)]) ⟨a9q, trivial⟩) (h := ?_)
 intro hb hE
 simp only [go_sem] at hb
 simp only [a6q, x']
 (try refine A2X ?_); simp only [go_sem]; (repeat' first | apply CJ.mk | intro hc); all_goals try ((repeat' first | apply And.intro | intro hs) <;> (try simp only [go_sem, Bool.and_eq_false_iff] at hs) <;> omega)
 all_goals (cases a; cases b; simp_all)
noncomputable def a0X : CT := d7 (fun (x : GTerm × GTerm) => b6k x.1 x.2)
@[go_sem] theorem c2U (a_Var : List UInt8) (a_Val_N : Int) (a_Val_S : List UInt8) (b_Var : List UInt8) (b_Val_N : Int) (b_Val_S : List UInt8) : a0X [(true, [.s a_Var, .i .i64 a_Val_N, .s a_Val_S]), (true, [.s b_Var, .i .i64 b_Val_N, .s b_Val_S])] = some (True, [], .one (false, [.b (decide ((GTerm.mk a_Var (GValue.mk a_Val_N a_Val_S)) = (GTerm.mk b_Var (GValue.mk b_Val_N b_Val_S))))])) := c4 _ (by rintro ⟨⟨_, ⟨_, _⟩⟩, ⟨_, ⟨_, _⟩⟩⟩ ⟨⟨_, ⟨_, _⟩⟩, ⟨_, ⟨_, _⟩⟩⟩ h; simp at h; simp_all) ((GTerm.mk a_Var (GValue.mk a_Val_N a_Val_S)), (GTerm.mk b_Var (GValue.mk b_Val_N b_Val_S)))
theorem a4q : OkC Tryz.prog 289 a0X := c5 _
def a5y : ACode := q' ([b' 4 false]) (.seq (q' ([m' 6 0, n' 7 6, m' 8 1, n' 9 8, o' 10 (.bin .neq (.t 7) (.t 9))]) (.cond (.t 10) (q' ([b' 4 false]) .ret) .skip)) (.seq (q' ([z' 5
 0]) (.block 0 (.loop (.seq (q' ([m' 11 5, m' 12 0, n' 13 12, r' 14 11 13]) (.cond (.t 14) .skip (.exit 0))) (.seq (.block 1 (.seq (.reg true [m' 17 0, m' 18
 5, i' 19 3 17 18, e' 20 3 19, m' 21 1, m' 22 5, i' 23 3 21 22, e' 24 3 23, c' 25 289 [20, 24], o' 26 (.not (.t 25))]) (.cond (.t 26) (q' ([b' 4 false]) .ret)
 .skip))) (g' [m' 15 5, a' 16 15, m' 5 16])))))) (q' ([b' 4 true]) .ret)))
theorem b2I : cmp Tryz.prog Tryz.f205 = some a5y := by kernel_rfl
theorem b4W (a : List GTerm) (b : List GTerm) : A0n Tryz.prog 205 [(false, [.sl false [.s [], .i .i64 0, .s []] (a.map GTerm.cells)]), (false, [.sl false [.s [], .i .i64 0, .s []] (b.map GTerm.cells)])] [] (.one (false, [.b (decide (a = b))])) := by
 refine spec_of2 false false none Tryz.func205 b2I (rvs := [.t 4]) (hΓ := mkCtx_ok (deep := false) (l := [(289, [], a0X)]) ⟨a4q, trivial⟩) (h := ?_)
 intro hb hE
 simp only [go_sem] at hb
 simp only [a5y, x']
 (try refine A2X ?_); simp only [go_sem]; (repeat' first | apply CJ.mk | intro hc); all_goals try ((repeat' first | apply And.intro | intro hs) <;> (try simp only [go_sem, Bool.and_eq_false_iff] at hs) <;> omega)
 · symm
  rw [decide_eq_false_iff_not]
  rintro rfl
  simp at hc
 have hl : a.length = b.length := by simpa [Int.ofNat_inj] using hc
 refine aw_loop2 false [] [0, 1] [] [] (fun i : {i : Nat // i ≤ a.length ∧ a.take i = b.take i} => [(5, slV (.i .i64 i.1))]) (fun i => []) (fun i => []) (fun i => a.length - i.1) (⟨0, by simp⟩) _ rfl ?_ ?_
 · simp only [go_sem]
  all_goals first | omega | ((repeat' apply And.intro) <;> first | omega | rfl | skip)
 intro S0 hS0 i
 simp only [go_sem] at hS0
 obtain ⟨i, hi, ht⟩ := i
 (try refine A2X ?_); simp only [go_sem, hS0]; (repeat' first | apply CJ.mk | intro hc); all_goals try ((repeat' first | apply And.intro | intro hs) <;> (try simp only [go_sem, Bool.and_eq_false_iff] at hs) <;> omega)
 · exact (decide_eq_false (a2M default (i := i) (by simpa using hc))).symm
 · (refine lpK_n2 (⟨i + 1, by omega, a0n ht (by omega) (by omega) (d := default) (by simpa using hc)⟩) _ rfl ?_; simp only [go_sem, hS0]; first | done | ((repeat' apply And.intro) <;> first | omega | (refine w64 ?_ ?_ ?_ <;> omega) | rfl | skip))
 · exact (decide_eq_true (l3 hl ht (by omega))).symm
 all_goals trace_state
noncomputable def a2t : CT := d7 (fun (x : (List GTerm) × (List GTerm)) => b4W x.1 x.2)
@[go_sem] theorem c1B (a : List GTerm) (b : List GTerm) : a2t [(false, [.sl false [.s [], .i .i64 0, .s []] (a.map GTerm.cells)]), (false, [.sl false [.s [], .i .i64 0, .s []] (b.map GTerm.cells)])] = some (True, [], .one (false, [.b (decide (a = b))])) := c4 _ (by rintro ⟨_, _⟩ ⟨_, _⟩ h; simp at h; simp_all) (a, b)
theorem a9p : OkC Tryz.prog 205 a2t := c5 _
end Go.Aw
