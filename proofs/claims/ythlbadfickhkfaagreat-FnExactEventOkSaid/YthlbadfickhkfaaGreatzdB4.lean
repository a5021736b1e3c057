/- Stores and steps: sizes, copies, equalities. No condition. -/
import Derived.Test.YthlbadfickhkfaaGreatzdB0
import Derived.Test.YthlbadfickhkfaaGreatzdB2
namespace Go.Aw
open Go.Proofs
attribute [local irreducible] aft blk lpK retK AW A0l
set_option linter.unusedVariables false
set_option linter.unusedSimpArgs false
set_option maxRecDepth 100000
def a8m (x : GRow) : Nat := (x.V.length + j5 l9 x.V)
def a3u : ACode := q' ([z' 4 0]) (q' ([m' 6 1, m' 7 0, n' 8 7, o' 9 (.bin .sub (.t 6) (.t 8)), m' 1 9]) (.seq (q' ([m' 10 1, o' 11 (.bin .lss (.t 10) (k' 0))]) (.cond (.t 11) (q'
 ([o' 4 (.mov (.k (.v false [.c (.i .i64 (-1))])))]) .ret) .skip)) (.seq (q' ([z' 5 0]) (.block 0 (.loop (.seq (q' ([m' 12 5, m' 13 0, n' 14 13, r' 15 12 14])
 (.cond (.t 15) .skip (.exit 0))) (.seq (.block 1 (q' ([m' 18 0, m' 19 5, i' 20 2 18 19, e' 21 2 20, m' 22 1, c' 23 241 [21, 22], m' 1 23]) (q' ([m' 24 1, o'
 25 (.bin .lss (.t 24) (k' 0))]) (.cond (.t 25) (q' ([o' 4 (.mov (.k (.v false [.c (.i .i64 (-1))])))]) .ret) .skip)))) (g' [m' 16 5, a' 17 16, m' 5 17]))))))
 (q' ([m' 26 1, m' 4 26]) .ret))))
theorem b0t : cmp Tryz.prog Tryz.f158 = some a3u := by kernel_rfl
theorem b2j (a : List GValue) (left : Int) (hpre : 0 ≤ left ∧ left ≤ 1048576) : A0l Tryz.prog 158 [(false, [.sl false [.i .i64 0, .s []] (a.map GValue.cells)]), (false, [.i .i64 left])] [] (.one (false, [.i .i64 (szR left ((a.length + j5 l9 a) : Nat))])) := by
 refine spec_of2 false false none Tryz.func158 b0t (rvs := [.t 4]) (hΓ := mkCtx_ok (deep := false) (l := [(241, [], y5)]) ⟨a2J, trivial⟩) (h := ?_)
 intro hb hE
 simp only [go_sem] at hb
 simp only [a3u, x']
 (try refine A2V ?_); simp only [go_sem]; (repeat' first | apply CJ.mk | intro hc); all_goals try ((repeat' first | apply And.intro | intro hs) <;> (try simp only [go_sem, Bool.and_eq_false_iff] at hs) <;> omega)
 ·all_goals ((repeat (simp (disch := omega) only [t8] at *)) <;> (try simp only [szR, szR] at *) <;> (first | omega | (split <;> omega)))
 have hw := t8 (l := left) (n := a.length) (by omega) (by omega) (by omega) (by omega)
 rw [hw] at hc
 refine aw_loop2 false [] [0] [] [] (fun i : {i : Nat // i ≤ a.length ∧ (a.length : Int) + (j5 l9 (a.take i) : Nat) ≤ left} => [(5, slV (.i .i64 i.1)), (1, slV (.i .i64 (left - a.length - (j5 l9 (a.take i.1) : Nat))))]) (fun i => []) (fun i => []) (fun i => a.length - i.1) (⟨0, by simp only [List.take_zero, a4c]; omega⟩) _ rfl ?_ ?_
 ·simp only [go_sem, hw]
  all_goals first | omega | ((repeat' apply And.intro) <;> first | omega | rfl | skip)
 intro S0 hS0 i
 simp only [go_sem, hw] at hS0
 obtain ⟨i, hi, ht⟩ := i
 (try refine A2V ?_); simp only [go_sem, hw, hS0]; (repeat' first | apply CJ.mk | intro hc); all_goals try ((repeat' first | apply And.intro | intro hs) <;> (try simp only [go_sem, Bool.and_eq_false_iff] at hs) <;> omega)
 ·have h1 := i6 l9 (default : GValue) (show i < a.length by omega)
  have h2 := t7 l9 a (i + 1)
  all_goals ((repeat (simp (disch := omega) only [t8] at *)) <;> (try simp only [szR, szR] at *) <;> (first | omega | (split <;> omega)))
 ·have h1 := i6 l9 (default : GValue) (show i < a.length by omega)
  (refine lpK_n2 (⟨i + 1, by omega, by unfold szR at hc; split at hc <;> omega⟩) _ rfl ?_; simp only [go_sem, hw, hS0]; first | done | ((repeat' apply And.intro) <;> first | omega | (refine w64 ?_ ?_ ?_ <;> omega) | rfl | skip))
  rw [h1]
  unfold szR at hc ⊢
  split at hc <;> omega
 ·have h1 := a6G l9 (show ¬ i < a.length by omega)
  all_goals ((repeat (simp (disch := omega) only [t8] at *)) <;> (try simp only [szR, szR] at *) <;> (first | omega | (split <;> omega)))
 all_goals all_goals ((repeat (simp (disch := omega) only [t8] at *)) <;> (try simp only [szR, szR] at *) <;> (first | omega | (split <;> omega)))
noncomputable def a0U : CT := n8 (fun (x : (List GValue) × Int) h => b2j x.1 x.2 h)
@[go_sem] theorem b9D (a : List GValue) (left : Int) : a0U [(false, [.sl false [.i .i64 0, .s []] (a.map GValue.cells)]), (false, [.i .i64 left])] = some (0 ≤ left ∧ left ≤ 1048576, [], .one (false, [.i .i64 (szR left ((a.length + j5 l9 a) : Nat))])) := d3 _ (by rintro ⟨_, _⟩ ⟨_, _⟩ h; simp at h; simp_all) (a, left)
theorem a7N : OkC Tryz.prog 158 a0U := d4 _
def a7n : ACode := q' ([o' 2 (.box 1 (.t 0)), z' 4 0]) (q' ([f' 5 0 2, l' 6 5, m' 7 1, c' 8 158 [6, 7], m' 1 8]) (.seq (q' ([m' 9 1, o' 10 (.bin .lss (.t 9) (k' 0))]) (.cond (.t
 10) (q' ([o' 4 (.mov (.k (.v false [.c (.i .i64 (-1))])))]) .ret) .skip)) (q' ([m' 11 1, m' 4 11]) .ret)))
theorem b4R : cmp Tryz.prog Tryz.f92 = some a7n := by kernel_rfl
theorem b6T (a : GRow) (left : Int) (hpre : 0 ≤ left ∧ left ≤ 1048576) : A0l Tryz.prog 92 [(true, [.sl false [.i .i64 0, .s []] (a.V.map GValue.cells)]), (false, [.i .i64 left])] [] (.one (false, [.i .i64 (szR left (a8m a : Nat))])) := by
 refine spec_of2 false false none Tryz.func92 b4R (rvs := [.t 4]) (hΓ := mkCtx_ok (deep := false) (l := [(158, [], a0U)]) ⟨a7N, trivial⟩) (h := ?_)
 intro hb hE
 simp only [go_sem] at hb
 simp only [a7n, x']
 (try refine A2V ?_); simp only [go_sem]; (repeat' first | apply CJ.mk | intro hc); all_goals try ((repeat' first | apply And.intro | intro hs) <;> (try simp only [go_sem, Bool.and_eq_false_iff] at hs) <;> omega)
 all_goals ((repeat (simp (disch := omega) only [t8] at *)) <;> (try simp only [szR, a8m] at *) <;> (first | omega | (split <;> omega)))
noncomputable def a4v : CT := n8 (fun (x : GRow × Int) h => b6T x.1 x.2 h)
@[go_sem] theorem c2Z (a_V : List GValue) (left : Int) : a4v [(true, [.sl false [.i .i64 0, .s []] (a_V.map GValue.cells)]), (false, [.i .i64 left])] = some (0 ≤ left ∧ left ≤ 1048576, [], .one (false, [.i .i64 (szR left (a8m (GRow.mk a_V) : Nat))])) := d3 _ (by rintro ⟨⟨_⟩, _⟩ ⟨⟨_⟩, _⟩ h; simp at h; simp_all) ((GRow.mk a_V), left)
theorem b1q : OkC Tryz.prog 92 a4v := d4 _
def a3v : ACode := q' ([o' 2 (.mov (.k (.v false [.nl [.i .i64 0, .s []]])))]) (q' ([m' 5 0, n' 6 5, o' 7 (.mks 2 24 [.i .i64, .s] (.t 6) (.t 6)), m' 3 7]) (.seq (q' ([z' 4 0])
 (.block 0 (.loop (.seq (q' ([m' 8 4, m' 9 0, n' 10 9, r' 11 8 10]) (.cond (.t 11) .skip (.exit 0))) (.seq (.block 1 (g' [m' 14 3, m' 15 4, m' 16 0, m' 17 4,
 i' 18 2 16 17, e' 19 2 18, c' 20 243 [19], i' 21 2 14 15, s' 2 21 20])) (g' [m' 12 4, a' 13 12, m' 4 13])))))) (q' ([m' 22 3, m' 2 22]) .ret)))
theorem b0u : cmp Tryz.prog Tryz.f161 = some a3v := by kernel_rfl
theorem b2k (a : List GValue) (hpre : (((a.length + j5 l9 a) : Nat) : Int) ≤ 1048576) : A0l Tryz.prog 161 [(false, [.sl false [.i .i64 0, .s []] (a.map GValue.cells)])] [] (.one (false, [.sl true [.i .i64 0, .s []] (a.map GValue.cells)])) := by
 refine spec_of2 true false none Tryz.func161 b0u (rvs := [.t 2]) (hΓ := mkCtx_ok (deep := true) (l := [(243, [], y6)]) ⟨a2K, trivial⟩) (h := ?_)
 intro hb hE
 simp only [go_sem] at hb
 simp only [a3v, x']
 (try refine A2V ?_); simp only [go_sem, a1z]; (repeat' first | apply CJ.mk | intro hc); all_goals try ((repeat' first | apply And.intro | intro hs) <;> (try simp only [go_sem, Bool.and_eq_false_iff] at hs) <;> omega)
 refine aw_loop2 true [] [0, 3] [] [] (fun i : {p : Nat × (List GValue) // p.1 ≤ a.length ∧ p.2.length = a.length ∧ p.2.take p.1 = a.take p.1} => [(4, slV (.i .i64 i.1.1))]) (fun i => []) (fun i => [(896, [.i .i64 0, .s []], i.1.2.map GValue.cells)]) (fun i => a.length - i.1.1) (⟨(0, List.replicate a.length default), by simp⟩) _ rfl ?_ ?_
 ·simp only [go_sem, a1z]
  all_goals first | omega | ((repeat' apply And.intro) <;> first | omega | rfl | skip)
 intro S0 hS0 i
 simp only [go_sem, a1z] at hS0
 obtain ⟨⟨i, L⟩, hi, hl, ht⟩ := i
 simp only at hi hl ht
 (try refine A2V ?_); simp only [go_sem, a1z, hS0]; (repeat' first | apply CJ.mk | intro hc); all_goals try ((repeat' first | apply And.intro | intro hs) <;> (try simp only [go_sem, Bool.and_eq_false_iff] at hs) <;> omega)
 ·(refine lpK_n2 (⟨(i + 1, L.set i (a.getD i default)), by simp only; omega, by simp [hl], u3 hl ht (by omega)⟩) _ rfl ?_; simp only [go_sem, a1z, hS0]; first | done | ((repeat' apply And.intro) <;> first | omega | (refine w64 ?_ ?_ ?_ <;> omega) | rfl | skip))
 ·obtain rfl := o5 hl ht (by omega)
  rfl
 all_goals trace_state
noncomputable def a0V : CT := n8 (fun (x : (List GValue)) h => b2k x h)
@[go_sem] theorem b9E (a : List GValue) : a0V [(false, [.sl false [.i .i64 0, .s []] (a.map GValue.cells)])] = some ((((a.length + j5 l9 a) : Nat) : Int) ≤ 1048576, [], .one (false, [.sl true [.i .i64 0, .s []] (a.map GValue.cells)])) := d3 _ (by intro x y h; simp at h; simp_all) a
theorem a7O : OkC Tryz.prog 161 a0V := d4 _
def a7p : ACode := q' ([o' 1 (.box 1 (.t 0)), w' 2 [.sl [.i .i64 0, .s []]]]) (q' ([w' 3 [.sl [.i .i64 0, .s []]]]) (q' ([f' 4 0 1, l' 5 4, c' 6 161 [5], f' 7 0 3, s' 1 7 6]) (q'
 ([e' 8 1 3, s' 1 2 8]) .ret)))
theorem b4T : cmp Tryz.prog Tryz.f94 = some a7p := by kernel_rfl
theorem b6V (a : GRow) (hpre : (a8m a : Int) ≤ 1048576) : A0l Tryz.prog 94 [(true, [.sl false [.i .i64 0, .s []] (a.V.map GValue.cells)])] [] (.one (true, [.sl true [.i .i64 0, .s []] (a.V.map GValue.cells)])) := by
 refine spec_of2 true false none Tryz.func94 b4T (rvs := [.c 2 true 1]) (hΓ := mkCtx_ok (deep := true) (l := [(161, [], a0V)]) ⟨a7O, trivial⟩) (h := ?_)
 intro hb hE
 simp only [go_sem] at hb
 simp only [a7p, x']
 (try refine A2V ?_); simp only [go_sem]; (repeat' first | apply CJ.mk | intro hc); all_goals try ((repeat' first | apply And.intro | intro hs) <;> (try simp only [go_sem, Bool.and_eq_false_iff] at hs) <;> omega)
 all_goals (simp only [a8m] at *; omega)
noncomputable def a4x : CT := n8 (fun (x : GRow) h => b6V x h)
@[go_sem] theorem c3b (a_V : List GValue) : a4x [(true, [.sl false [.i .i64 0, .s []] (a_V.map GValue.cells)])] = some ((a8m (GRow.mk a_V) : Int) ≤ 1048576, [], .one (true, [.sl true [.i .i64 0, .s []] (((GRow.mk a_V).V).map GValue.cells)])) := d3 _ (by rintro ⟨_⟩ ⟨_⟩ h; simp at h; simp_all) (GRow.mk a_V)
theorem b1s : OkC Tryz.prog 94 a4x := d4 _
end Go.Aw
