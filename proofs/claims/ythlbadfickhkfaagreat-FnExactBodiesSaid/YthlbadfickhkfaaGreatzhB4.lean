/- Stores and steps: sizes, copies, equalities. No condition. -/
import Derived.Test.YthlbadfickhkfaaGreatzhB0
import Derived.Test.YthlbadfickhkfaaGreatzhB2
namespace Go.Aw
open Go.Proofs
attribute [local irreducible] aft blk lpK retK AW A0m
set_option linter.unusedVariables false
set_option linter.unusedSimpArgs false
set_option maxRecDepth 100000
def v7 (x : c9) : Nat := (x.V.length + i7 u3 x.V)
def a8c (x : d8) : Nat := (x.Rows.length + i7 v7 x.Rows)
def o6 (x : d6) : Nat := x.Name.length + a8c x.Rel
def a1J (x : d7) : Nat := (x.Rels.length + i7 o6 x.Rels)
def a4O : ACode := q' ([z' 4 0]) (q' ([m' 6 1, m' 7 0, n' 8 7, o' 9 (.bin .sub (.t 6) (.t 8)), m' 1 9]) (.seq (q' ([m' 10 1, o' 11 (.bin .lss (.t 10) (k' 0))]) (.cond (.t 11) (q'
 ([o' 4 (.mov (.k (.v false [.c (.i .i64 (-1))])))]) .ret) .skip)) (.seq (q' ([z' 5 0]) (.block 0 (.loop (.seq (q' ([m' 12 5, m' 13 0, n' 14 13, r' 15 12 14])
 (.cond (.t 15) .skip (.exit 0))) (.seq (.block 1 (q' ([m' 18 0, m' 19 5, i' 20 2 18 19, e' 21 2 20, m' 22 1, c' 23 241 [21, 22], m' 1 23]) (q' ([m' 24 1, o'
 25 (.bin .lss (.t 24) (k' 0))]) (.cond (.t 25) (q' ([o' 4 (.mov (.k (.v false [.c (.i .i64 (-1))])))]) .ret) .skip)))) (g' [m' 16 5, a' 17 16, m' 5 17]))))))
 (q' ([m' 26 1, m' 4 26]) .ret))))
theorem b2c : cmp Tryz.prog Tryz.f158 = some a4O := by kernel_rfl
theorem b4l (a : List c6) (left : Int) (hpre : 0 ≤ left ∧ left ≤ 1048576) : A0m Tryz.prog 158 [(false, [.sl false [.i .i64 0, .s []] (a.map c6.cells)]), (false, [.i .i64 left])] [] (.one (false, [.i .i64 (szR left ((a.length + i7 u3 a) : Nat))])) := by
 refine spec_of2 false false none Tryz.func158 b2c (rvs := [.t 4]) (hΓ := mkCtx_ok (deep := false) (l := [(241, [], a0F)]) ⟨a3M, trivial⟩) (h := ?_)
 intro hb hE
 simp only [go_sem] at hb
 simp only [a4O, x']
 (try refine A2Z ?_); simp only [go_sem]; (repeat' first | apply CJ.mk | intro hc); all_goals try ((repeat' first | apply And.intro | intro hs) <;> (try simp only [go_sem, Bool.and_eq_false_iff] at hs) <;> omega)
 ·all_goals ((repeat (simp (disch := omega) only [a0k] at *)) <;> (try simp only [szR, szR] at *) <;> (first | omega | (split <;> omega)))
 have hw := a0k (l := left) (n := a.length) (by omega) (by omega) (by omega) (by omega)
 rw [hw] at hc
 refine aw_loop2 false [] [0] [] [] (fun i : {i : Nat // i ≤ a.length ∧ (a.length : Int) + (i7 u3 (a.take i) : Nat) ≤ left} => [(5, slV (.i .i64 i.1)), (1, slV (.i .i64 (left - a.length - (i7 u3 (a.take i.1) : Nat))))]) (fun i => []) (fun i => []) (fun i => a.length - i.1) (⟨0, by simp only [List.take_zero, a5x]; omega⟩) _ rfl ?_ ?_
 ·simp only [go_sem, hw]
  all_goals first | omega | ((repeat' apply And.intro) <;> first | omega | rfl | skip)
 intro S0 hS0 i
 simp only [go_sem, hw] at hS0
 obtain ⟨i, hi, ht⟩ := i
 (try refine A2Z ?_); simp only [go_sem, hw, hS0]; (repeat' first | apply CJ.mk | intro hc); all_goals try ((repeat' first | apply And.intro | intro hs) <;> (try simp only [go_sem, Bool.and_eq_false_iff] at hs) <;> omega)
 ·have h1 := j4 u3 (default : c6) (show i < a.length by omega)
  have h2 := p7 u3 a (i + 1)
  all_goals ((repeat (simp (disch := omega) only [a0k] at *)) <;> (try simp only [szR, szR] at *) <;> (first | omega | (split <;> omega)))
 ·have h1 := j4 u3 (default : c6) (show i < a.length by omega)
  (refine lpK_n2 (⟨i + 1, by omega, by unfold szR at hc; split at hc <;> omega⟩) _ rfl ?_; simp only [go_sem, hw, hS0]; first | done | ((repeat' apply And.intro) <;> first | omega | (refine w64 ?_ ?_ ?_ <;> omega) | rfl | skip))
  rw [h1]
  unfold szR at hc ⊢
  split at hc <;> omega
 ·have h1 := a0r u3 (show ¬ i < a.length by omega)
  all_goals ((repeat (simp (disch := omega) only [a0k] at *)) <;> (try simp only [szR, szR] at *) <;> (first | omega | (split <;> omega)))
 all_goals all_goals ((repeat (simp (disch := omega) only [a0k] at *)) <;> (try simp only [szR, szR] at *) <;> (first | omega | (split <;> omega)))
noncomputable def a1Y : CT := l8 (fun (x : (List c6) × Int) h => b4l x.1 x.2 h)
@[go_sem] theorem c2S (a : List c6) (x0 : Int) : a1Y [(false, [.sl false [.i .i64 0, .s []] (a.map c6.cells)]), (false, [.i .i64 x0])] = some (0 ≤ x0 ∧ x0 ≤ 1048576, [], .one (false, [.i .i64 (szR x0 ((a.length + i7 u3 a) : Nat))])) := f9 _ (by rintro ⟨_, _⟩ ⟨_, _⟩ h; simp at h; simp_all) (a, x0)
theorem a9s : OkC Tryz.prog 158 a1Y := i3 _
def a8O : ACode := q' ([o' 2 (.box 1 (.t 0)), z' 4 0]) (q' ([f' 5 0 2, l' 6 5, m' 7 1, c' 8 158 [6, 7], m' 1 8]) (.seq (q' ([m' 9 1, o' 10 (.bin .lss (.t 9) (k' 0))]) (.cond (.t
 10) (q' ([o' 4 (.mov (.k (.v false [.c (.i .i64 (-1))])))]) .ret) .skip)) (q' ([m' 11 1, m' 4 11]) .ret)))
theorem b7G : cmp Tryz.prog Tryz.f92 = some a8O := by kernel_rfl
theorem c0i (a : c9) (left : Int) (hpre : 0 ≤ left ∧ left ≤ 1048576) : A0m Tryz.prog 92 [(true, [.sl false [.i .i64 0, .s []] (a.V.map c6.cells)]), (false, [.i .i64 left])] [] (.one (false, [.i .i64 (szR left (v7 a : Nat))])) := by
 refine spec_of2 false false none Tryz.func92 b7G (rvs := [.t 4]) (hΓ := mkCtx_ok (deep := false) (l := [(158, [], a1Y)]) ⟨a9s, trivial⟩) (h := ?_)
 intro hb hE
 simp only [go_sem] at hb
 simp only [a8O, x']
 (try refine A2Z ?_); simp only [go_sem]; (repeat' first | apply CJ.mk | intro hc); all_goals try ((repeat' first | apply And.intro | intro hs) <;> (try simp only [go_sem, Bool.and_eq_false_iff] at hs) <;> omega)
 all_goals ((repeat (simp (disch := omega) only [a0k] at *)) <;> (try simp only [szR, v7] at *) <;> (first | omega | (split <;> omega)))
noncomputable def a5Q : CT := l8 (fun (x : c9 × Int) h => c0i x.1 x.2 h)
@[go_sem] theorem c6W (x0 : List c6) (x1 : Int) : a5Q [(true, [.sl false [.i .i64 0, .s []] (x0.map c6.cells)]), (false, [.i .i64 x1])] = some (0 ≤ x1 ∧ x1 ≤ 1048576, [], .one (false, [.i .i64 (szR x1 (v7 (c9.mk x0) : Nat))])) := f9 _ (by rintro ⟨⟨_⟩, _⟩ ⟨⟨_⟩, _⟩ h; simp at h; simp_all) ((c9.mk x0), x1)
theorem b3l : OkC Tryz.prog 92 a5Q := i3 _
def a7l : ACode := q' ([z' 4 0]) (q' ([m' 6 1, m' 7 0, n' 8 7, o' 9 (.bin .sub (.t 6) (.t 8)), m' 1 9]) (.seq (q' ([m' 10 1, o' 11 (.bin .lss (.t 10) (k' 0))]) (.cond (.t 11) (q'
 ([o' 4 (.mov (.k (.v false [.c (.i .i64 (-1))])))]) .ret) .skip)) (.seq (q' ([z' 5 0]) (.block 0 (.loop (.seq (q' ([m' 12 5, m' 13 0, n' 14 13, r' 15 12 14])
 (.cond (.t 15) .skip (.exit 0))) (.seq (.block 1 (q' ([m' 18 0, m' 19 5, i' 20 1 18 19, e' 21 1 20, m' 22 1, c' 23 92 [21, 22], m' 1 23]) (q' ([m' 24 1, o' 25
 (.bin .lss (.t 24) (k' 0))]) (.cond (.t 25) (q' ([o' 4 (.mov (.k (.v false [.c (.i .i64 (-1))])))]) .ret) .skip)))) (g' [m' 16 5, a' 17 16, m' 5 17])))))) (q'
 ([m' 26 1, m' 4 26]) .ret))))
theorem b5I : cmp Tryz.prog Tryz.f317 = some a7l := by kernel_rfl
theorem b8k (a : List c9) (left : Int) (hpre : 0 ≤ left ∧ left ≤ 1048576) : A0m Tryz.prog 317 [(false, [.sl false [.sl false [.i .i64 0, .s []] []] (a.map (c9.cells false false))]), (false, [.i .i64 left])] [] (.one (false, [.i .i64 (szR left ((a.length + i7 v7 a) : Nat))])) := by
 refine spec_of2 false false none Tryz.func317 b5I (rvs := [.t 4]) (hΓ := mkCtx_ok (deep := false) (l := [(92, [], a5Q)]) ⟨b3l, trivial⟩) (h := ?_)
 intro hb hE
 simp only [go_sem] at hb
 simp only [a7l, x']
 (try refine A2Z ?_); simp only [go_sem]; (repeat' first | apply CJ.mk | intro hc); all_goals try ((repeat' first | apply And.intro | intro hs) <;> (try simp only [go_sem, Bool.and_eq_false_iff] at hs) <;> omega)
 ·all_goals ((repeat (simp (disch := omega) only [a0k] at *)) <;> (try simp only [szR, szR] at *) <;> (first | omega | (split <;> omega)))
 have hw := a0k (l := left) (n := a.length) (by omega) (by omega) (by omega) (by omega)
 rw [hw] at hc
 refine aw_loop2 false [] [0] [] [] (fun i : {i : Nat // i ≤ a.length ∧ (a.length : Int) + (i7 v7 (a.take i) : Nat) ≤ left} => [(5, slV (.i .i64 i.1)), (1, slV (.i .i64 (left - a.length - (i7 v7 (a.take i.1) : Nat))))]) (fun i => []) (fun i => []) (fun i => a.length - i.1) (⟨0, by simp only [List.take_zero, a5x]; omega⟩) _ rfl ?_ ?_
 ·simp only [go_sem, hw]
  all_goals first | omega | ((repeat' apply And.intro) <;> first | omega | rfl | skip)
 intro S0 hS0 i
 simp only [go_sem, hw] at hS0
 obtain ⟨i, hi, ht⟩ := i
 (try refine A2Z ?_); simp only [go_sem, hw, hS0]; (repeat' first | apply CJ.mk | intro hc); all_goals try ((repeat' first | apply And.intro | intro hs) <;> (try simp only [go_sem, Bool.and_eq_false_iff] at hs) <;> omega)
 ·have h1 := j4 v7 (default : c9) (show i < a.length by omega)
  have h2 := p7 v7 a (i + 1)
  all_goals ((repeat (simp (disch := omega) only [a0k] at *)) <;> (try simp only [szR, szR] at *) <;> (first | omega | (split <;> omega)))
 ·have h1 := j4 v7 (default : c9) (show i < a.length by omega)
  (refine lpK_n2 (⟨i + 1, by omega, by unfold szR at hc; split at hc <;> omega⟩) _ rfl ?_; simp only [go_sem, hw, hS0]; first | done | ((repeat' apply And.intro) <;> first | omega | (refine w64 ?_ ?_ ?_ <;> omega) | rfl | skip))
  rw [h1]
  unfold szR at hc ⊢
  split at hc <;> omega
 ·have h1 := a0r v7 (show ¬ i < a.length by omega)
  all_goals ((repeat (simp (disch := omega) only [a0k] at *)) <;> (try simp only [szR, szR] at *) <;> (first | omega | (split <;> omega)))
 all_goals all_goals ((repeat (simp (disch := omega) only [a0k] at *)) <;> (try simp only [szR, szR] at *) <;> (first | omega | (split <;> omega)))
noncomputable def a4k : CT := l8 (fun (x : (List c9) × Int) h => b8k x.1 x.2 h)
@[go_sem] theorem c5F (a : List c9) (x0 : Int) : a4k [(false, [.sl false [.sl false [.i .i64 0, .s []] []] (a.map (c9.cells false false))]), (false, [.i .i64 x0])] = some (0 ≤ x0 ∧ x0 ≤ 1048576, [], .one (false, [.i .i64 (szR x0 ((a.length + i7 v7 a) : Nat))])) := f9 _ (by rintro ⟨_, _⟩ ⟨_, _⟩ h; simp at h; simp_all) (a, x0)
theorem b1u : OkC Tryz.prog 317 a4k := i3 _
def a8N : ACode := q' ([o' 2 (.box 2 (.t 0)), z' 4 0]) (q' ([f' 5 1 2, l' 6 5, m' 7 1, c' 8 317 [6, 7], m' 1 8]) (.seq (q' ([m' 9 1, o' 10 (.bin .lss (.t 9) (k' 0))]) (.cond (.t
 10) (q' ([o' 4 (.mov (.k (.v false [.c (.i .i64 (-1))])))]) .ret) .skip)) (q' ([m' 11 1, m' 4 11]) .ret)))
theorem b7F : cmp Tryz.prog Tryz.f257 = some a8N := by kernel_rfl
theorem c0h (a : d8) (left : Int) (hpre : 0 ≤ left ∧ left ≤ 1048576) : A0m Tryz.prog 257 [(true, [.i .i64 a.Arity, .sl false [.sl false [.i .i64 0, .s []] []] (a.Rows.map (c9.cells false false))]), (false, [.i .i64 left])] [] (.one (false, [.i .i64 (szR left (a8c a : Nat))])) := by
 refine spec_of2 false false none Tryz.func257 b7F (rvs := [.t 4]) (hΓ := mkCtx_ok (deep := false) (l := [(317, [], a4k)]) ⟨b1u, trivial⟩) (h := ?_)
 intro hb hE
 simp only [go_sem] at hb
 simp only [a8N, x']
 (try refine A2Z ?_); simp only [go_sem]; (repeat' first | apply CJ.mk | intro hc); all_goals try ((repeat' first | apply And.intro | intro hs) <;> (try simp only [go_sem, Bool.and_eq_false_iff] at hs) <;> omega)
 all_goals ((repeat (simp (disch := omega) only [a0k] at *)) <;> (try simp only [szR, a8c] at *) <;> (first | omega | (split <;> omega)))
noncomputable def a5P : CT := l8 (fun (x : d8 × Int) h => c0h x.1 x.2 h)
@[go_sem] theorem c6V (x0 : Int) (x1 : List c9) (x2 : Int) : a5P [(true, [.i .i64 x0, .sl false [.sl false [.i .i64 0, .s []] []] (x1.map (c9.cells false false))]), (false, [.i .i64 x2])] = some (0 ≤ x2 ∧ x2 ≤ 1048576, [], .one (false, [.i .i64 (szR x2 (a8c (d8.mk x0 x1) : Nat))])) := f9 _ (by rintro ⟨⟨_, _⟩, _⟩ ⟨⟨_, _⟩, _⟩ h; simp at h; simp_all) ((d8.mk x0 x1), x2)
theorem b3k : OkC Tryz.prog 257 a5P := i3 _
def a6s : ACode := q' ([o' 2 (.box 3 (.t 0)), z' 4 0]) (q' ([m' 5 1, f' 6 0 2, l' 7 6, o' 8 (.lens (.t 7)), o' 9 (.bin .sub (.t 5) (.t 8)), m' 1 9]) (.seq (q' ([m' 10 1, o' 11
 (.bin .lss (.t 10) (k' 0))]) (.cond (.t 11) (q' ([o' 4 (.mov (.k (.v false [.c (.i .i64 (-1))])))]) .ret) .skip)) (q' ([f' 12 1 2, e' 13 2 12, m' 14 1, c' 15
 257 [13, 14], m' 1 15]) (.seq (q' ([m' 16 1, o' 17 (.bin .lss (.t 16) (k' 0))]) (.cond (.t 17) (q' ([o' 4 (.mov (.k (.v false [.c (.i .i64 (-1))])))]) .ret)
 .skip)) (q' ([m' 18 1, m' 4 18]) .ret)))))
theorem b3H : cmp Tryz.prog Tryz.f172 = some a6s := by kernel_rfl
theorem b6A (a : d6) (left : Int) (hpre : 0 ≤ left ∧ left ≤ 1048576) : A0m Tryz.prog 172 [(true, [.s a.Name, .i .i64 a.Rel.Arity, .sl false [.sl false [.i .i64 0, .s []] []] (a.Rel.Rows.map (c9.cells false false))]), (false, [.i .i64 left])] [] (.one (false, [.i .i64 (szR left (o6 a : Nat))])) := by
 refine spec_of2 false false none Tryz.func172 b3H (rvs := [.t 4]) (hΓ := mkCtx_ok (deep := false) (l := [(257, [], a5P)]) ⟨b3k, trivial⟩) (h := ?_)
 intro hb hE
 simp only [go_sem] at hb
 simp only [a6s, x']
 (try refine A2Z ?_); simp only [go_sem]; (repeat' first | apply CJ.mk | intro hc); all_goals try ((repeat' first | apply And.intro | intro hs) <;> (try simp only [go_sem, Bool.and_eq_false_iff] at hs) <;> omega)
 all_goals ((repeat (simp (disch := omega) only [a0k] at *)) <;> (try simp only [szR, o6] at *) <;> (first | omega | (split <;> omega)))
noncomputable def a3e : CT := l8 (fun (x : d6 × Int) h => b6A x.1 x.2 h)
@[go_sem] theorem c4b (x0 : List UInt8) (x1 : Int) (x2 : List c9) (x3 : Int) : a3e [(true, [.s x0, .i .i64 x1, .sl false [.sl false [.i .i64 0, .s []] []] (x2.map (c9.cells false false))]), (false, [.i .i64 x3])] = some (0 ≤ x3 ∧ x3 ≤ 1048576, [], .one (false, [.i .i64 (szR x3 (o6 (d6.mk x0 (d8.mk x1 x2)) : Nat))])) := f9 _ (by rintro ⟨⟨_, ⟨_, _⟩⟩, _⟩ ⟨⟨_, ⟨_, _⟩⟩, _⟩ h; simp at h; simp_all) ((d6.mk x0 (d8.mk x1 x2)), x3)
theorem b0n : OkC Tryz.prog 172 a3e := i3 _
def a4N : ACode := q' ([z' 4 0]) (q' ([m' 6 1, m' 7 0, n' 8 7, o' 9 (.bin .sub (.t 6) (.t 8)), m' 1 9]) (.seq (q' ([m' 10 1, o' 11 (.bin .lss (.t 10) (k' 0))]) (.cond (.t 11) (q'
 ([o' 4 (.mov (.k (.v false [.c (.i .i64 (-1))])))]) .ret) .skip)) (.seq (q' ([z' 5 0]) (.block 0 (.loop (.seq (q' ([m' 12 5, m' 13 0, n' 14 13, r' 15 12 14])
 (.cond (.t 15) .skip (.exit 0))) (.seq (.block 1 (q' ([m' 18 0, m' 19 5, i' 20 3 18 19, e' 21 3 20, m' 22 1, c' 23 172 [21, 22], m' 1 23]) (q' ([m' 24 1, o'
 25 (.bin .lss (.t 24) (k' 0))]) (.cond (.t 25) (q' ([o' 4 (.mov (.k (.v false [.c (.i .i64 (-1))])))]) .ret) .skip)))) (g' [m' 16 5, a' 17 16, m' 5 17]))))))
 (q' ([m' 26 1, m' 4 26]) .ret))))
theorem b2b : cmp Tryz.prog Tryz.f104 = some a4N := by kernel_rfl
theorem b4k (a : List d6) (left : Int) (hpre : 0 ≤ left ∧ left ≤ 1048576) : A0m Tryz.prog 104 [(false, [.sl false [.s [], .i .i64 0, .sl false [.sl false [.i .i64 0, .s []] []] []] (a.map (d6.cells false false))]), (false, [.i .i64 left])] [] (.one (false, [.i .i64 (szR left ((a.length + i7 o6 a) : Nat))])) := by
 refine spec_of2 false false none Tryz.func104 b2b (rvs := [.t 4]) (hΓ := mkCtx_ok (deep := false) (l := [(172, [], a3e)]) ⟨b0n, trivial⟩) (h := ?_)
 intro hb hE
 simp only [go_sem] at hb
 simp only [a4N, x']
 (try refine A2Z ?_); simp only [go_sem]; (repeat' first | apply CJ.mk | intro hc); all_goals try ((repeat' first | apply And.intro | intro hs) <;> (try simp only [go_sem, Bool.and_eq_false_iff] at hs) <;> omega)
 ·all_goals ((repeat (simp (disch := omega) only [a0k] at *)) <;> (try simp only [szR, szR] at *) <;> (first | omega | (split <;> omega)))
 have hw := a0k (l := left) (n := a.length) (by omega) (by omega) (by omega) (by omega)
 rw [hw] at hc
 refine aw_loop2 false [] [0] [] [] (fun i : {i : Nat // i ≤ a.length ∧ (a.length : Int) + (i7 o6 (a.take i) : Nat) ≤ left} => [(5, slV (.i .i64 i.1)), (1, slV (.i .i64 (left - a.length - (i7 o6 (a.take i.1) : Nat))))]) (fun i => []) (fun i => []) (fun i => a.length - i.1) (⟨0, by simp only [List.take_zero, a5x]; omega⟩) _ rfl ?_ ?_
 ·simp only [go_sem, hw]
  all_goals first | omega | ((repeat' apply And.intro) <;> first | omega | rfl | skip)
 intro S0 hS0 i
 simp only [go_sem, hw] at hS0
 obtain ⟨i, hi, ht⟩ := i
 (try refine A2Z ?_); simp only [go_sem, hw, hS0]; (repeat' first | apply CJ.mk | intro hc); all_goals try ((repeat' first | apply And.intro | intro hs) <;> (try simp only [go_sem, Bool.and_eq_false_iff] at hs) <;> omega)
 ·have h1 := j4 o6 (default : d6) (show i < a.length by omega)
  have h2 := p7 o6 a (i + 1)
  all_goals ((repeat (simp (disch := omega) only [a0k] at *)) <;> (try simp only [szR, szR] at *) <;> (first | omega | (split <;> omega)))
 ·have h1 := j4 o6 (default : d6) (show i < a.length by omega)
  (refine lpK_n2 (⟨i + 1, by omega, by unfold szR at hc; split at hc <;> omega⟩) _ rfl ?_; simp only [go_sem, hw, hS0]; first | done | ((repeat' apply And.intro) <;> first | omega | (refine w64 ?_ ?_ ?_ <;> omega) | rfl | skip))
  rw [h1]
  unfold szR at hc ⊢
  split at hc <;> omega
 ·have h1 := a0r o6 (show ¬ i < a.length by omega)
  all_goals ((repeat (simp (disch := omega) only [a0k] at *)) <;> (try simp only [szR, szR] at *) <;> (first | omega | (split <;> omega)))
 all_goals all_goals ((repeat (simp (disch := omega) only [a0k] at *)) <;> (try simp only [szR, szR] at *) <;> (first | omega | (split <;> omega)))
noncomputable def a1X : CT := l8 (fun (x : (List d6) × Int) h => b4k x.1 x.2 h)
@[go_sem] theorem c2R (a : List d6) (x0 : Int) : a1X [(false, [.sl false [.s [], .i .i64 0, .sl false [.sl false [.i .i64 0, .s []] []] []] (a.map (d6.cells false false))]), (false, [.i .i64 x0])] = some (0 ≤ x0 ∧ x0 ≤ 1048576, [], .one (false, [.i .i64 (szR x0 ((a.length + i7 o6 a) : Nat))])) := f9 _ (by rintro ⟨_, _⟩ ⟨_, _⟩ h; simp at h; simp_all) (a, x0)
theorem a9r : OkC Tryz.prog 104 a1X := i3 _
def a6t : ACode := q' ([o' 2 (.box 1 (.t 0)), z' 4 0]) (q' ([f' 5 0 2, l' 6 5, m' 7 1, c' 8 104 [6, 7], m' 1 8]) (.seq (q' ([m' 9 1, o' 10 (.bin .lss (.t 9) (k' 0))]) (.cond (.t
 10) (q' ([o' 4 (.mov (.k (.v false [.c (.i .i64 (-1))])))]) .ret) .skip)) (q' ([m' 11 1, m' 4 11]) .ret)))
theorem b3I : cmp Tryz.prog Tryz.f42 = some a6t := by kernel_rfl
theorem b6B (a : d7) (left : Int) (hpre : 0 ≤ left ∧ left ≤ 1048576) : A0m Tryz.prog 42 [(true, [.sl false [.s [], .i .i64 0, .sl false [.sl false [.i .i64 0, .s []] []] []] (a.Rels.map (d6.cells false false))]), (false, [.i .i64 left])] [] (.one (false, [.i .i64 (szR left (a1J a : Nat))])) := by
 refine spec_of2 false false none Tryz.func42 b3I (rvs := [.t 4]) (hΓ := mkCtx_ok (deep := false) (l := [(104, [], a1X)]) ⟨a9r, trivial⟩) (h := ?_)
 intro hb hE
 simp only [go_sem] at hb
 simp only [a6t, x']
 (try refine A2Z ?_); simp only [go_sem]; (repeat' first | apply CJ.mk | intro hc); all_goals try ((repeat' first | apply And.intro | intro hs) <;> (try simp only [go_sem, Bool.and_eq_false_iff] at hs) <;> omega)
 all_goals ((repeat (simp (disch := omega) only [a0k] at *)) <;> (try simp only [szR, a1J] at *) <;> (first | omega | (split <;> omega)))
noncomputable def a3f : CT := l8 (fun (x : d7 × Int) h => b6B x.1 x.2 h)
@[go_sem] theorem c4c (x0 : List d6) (x1 : Int) : a3f [(true, [.sl false [.s [], .i .i64 0, .sl false [.sl false [.i .i64 0, .s []] []] []] (x0.map (d6.cells false false))]), (false, [.i .i64 x1])] = some (0 ≤ x1 ∧ x1 ≤ 1048576, [], .one (false, [.i .i64 (szR x1 (a1J (d7.mk x0) : Nat))])) := f9 _ (by rintro ⟨⟨_⟩, _⟩ ⟨⟨_⟩, _⟩ h; simp at h; simp_all) ((d7.mk x0), x1)
theorem b0o : OkC Tryz.prog 42 a3f := i3 _
def a4Q : ACode := q' ([o' 2 (.mov (.k (.v false [.nl [.i .i64 0, .s []]])))]) (q' ([m' 5 0, n' 6 5, o' 7 (.mks 2 24 [.i .i64, .s] (.t 6) (.t 6)), m' 3 7]) (.seq (q' ([z' 4 0])
 (.block 0 (.loop (.seq (q' ([m' 8 4, m' 9 0, n' 10 9, r' 11 8 10]) (.cond (.t 11) .skip (.exit 0))) (.seq (.block 1 (g' [m' 14 3, m' 15 4, m' 16 0, m' 17 4,
 i' 18 2 16 17, e' 19 2 18, c' 20 243 [19], i' 21 2 14 15, s' 2 21 20])) (g' [m' 12 4, a' 13 12, m' 4 13])))))) (q' ([m' 22 3, m' 2 22]) .ret)))
theorem b2e : cmp Tryz.prog Tryz.f161 = some a4Q := by kernel_rfl
theorem b4n (a : List c6) (hpre : (((a.length + i7 u3 a) : Nat) : Int) ≤ 1048576) : A0m Tryz.prog 161 [(false, [.sl false [.i .i64 0, .s []] (a.map c6.cells)])] [] (.one (false, [.sl true [.i .i64 0, .s []] (a.map c6.cells)])) := by
 refine spec_of2 true false none Tryz.func161 b2e (rvs := [.t 2]) (hΓ := mkCtx_ok (deep := true) (l := [(243, [], a0G)]) ⟨a3N, trivial⟩) (h := ?_)
 intro hb hE
 simp only [go_sem] at hb
 simp only [a4Q, x']
 (try refine A2Z ?_); simp only [go_sem, a2G]; (repeat' first | apply CJ.mk | intro hc); all_goals try ((repeat' first | apply And.intro | intro hs) <;> (try simp only [go_sem, Bool.and_eq_false_iff] at hs) <;> omega)
 refine aw_loop2 true [] [0, 3] [] [] (fun i : {p : Nat × (List c6) // p.1 ≤ a.length ∧ p.2.length = a.length ∧ p.2.take p.1 = a.take p.1} => [(4, slV (.i .i64 i.1.1))]) (fun i => []) (fun i => [(896, [.i .i64 0, .s []], i.1.2.map c6.cells)]) (fun i => a.length - i.1.1) (⟨(0, List.replicate a.length default), by simp⟩) _ rfl ?_ ?_
 ·simp only [go_sem, a2G]
  all_goals first | omega | ((repeat' apply And.intro) <;> first | omega | rfl | skip)
 intro S0 hS0 i
 simp only [go_sem, a2G] at hS0
 obtain ⟨⟨i, L⟩, hi, hl, ht⟩ := i
 simp only at hi hl ht
 (try refine A2Z ?_); simp only [go_sem, a2G, hS0]; (repeat' first | apply CJ.mk | intro hc); all_goals try ((repeat' first | apply And.intro | intro hs) <;> (try simp only [go_sem, Bool.and_eq_false_iff] at hs) <;> omega)
 ·(refine lpK_n2 (⟨(i + 1, L.set i (a.getD i default)), by simp only; omega, by simp [hl], t5 hl ht (by omega)⟩) _ rfl ?_; simp only [go_sem, a2G, hS0]; first | done | ((repeat' apply And.intro) <;> first | omega | (refine w64 ?_ ?_ ?_ <;> omega) | rfl | skip))
 ·obtain rfl := o7 hl ht (by omega)
  rfl
 all_goals trace_state
noncomputable def a2a : CT := l8 (fun (x : (List c6)) h => b4n x h)
@[go_sem] theorem c2U (a : List c6) : a2a [(false, [.sl false [.i .i64 0, .s []] (a.map c6.cells)])] = some ((((a.length + i7 u3 a) : Nat) : Int) ≤ 1048576, [], .one (false, [.sl true [.i .i64 0, .s []] (a.map c6.cells)])) := f9 _ (by intro x y h; simp at h; simp_all) a
theorem a9u : OkC Tryz.prog 161 a2a := i3 _
def a8R : ACode := q' ([o' 1 (.box 1 (.t 0)), w' 2 [.sl [.i .i64 0, .s []]]]) (q' ([w' 3 [.sl [.i .i64 0, .s []]]]) (q' ([f' 4 0 1, l' 5 4, c' 6 161 [5], f' 7 0 3, s' 1 7 6]) (q'
 ([e' 8 1 3, s' 1 2 8]) .ret)))
theorem b7J : cmp Tryz.prog Tryz.f94 = some a8R := by kernel_rfl
theorem c0l (a : c9) (hpre : (v7 a : Int) ≤ 1048576) : A0m Tryz.prog 94 [(true, [.sl false [.i .i64 0, .s []] (a.V.map c6.cells)])] [] (.one (true, [.sl true [.i .i64 0, .s []] (a.V.map c6.cells)])) := by
 refine spec_of2 true false none Tryz.func94 b7J (rvs := [.c 2 true 1]) (hΓ := mkCtx_ok (deep := true) (l := [(161, [], a2a)]) ⟨a9u, trivial⟩) (h := ?_)
 intro hb hE
 simp only [go_sem] at hb
 simp only [a8R, x']
 (try refine A2Z ?_); simp only [go_sem]; (repeat' first | apply CJ.mk | intro hc); all_goals try ((repeat' first | apply And.intro | intro hs) <;> (try simp only [go_sem, Bool.and_eq_false_iff] at hs) <;> omega)
 all_goals (simp only [v7] at *; omega)
noncomputable def a5T : CT := l8 (fun (x : c9) h => c0l x h)
@[go_sem] theorem c6Z (x0 : List c6) : a5T [(true, [.sl false [.i .i64 0, .s []] (x0.map c6.cells)])] = some ((v7 (c9.mk x0) : Int) ≤ 1048576, [], .one (true, [.sl true [.i .i64 0, .s []] (((c9.mk x0).V).map c6.cells)])) := f9 _ (by rintro ⟨_⟩ ⟨_⟩ h; simp at h; simp_all) (c9.mk x0)
theorem b3o : OkC Tryz.prog 94 a5T := i3 _
def a7q : ACode := q' ([o' 2 (.mov (.k (.v false [.nl [.sl false [.i .i64 0, .s []] []]])))]) (q' ([m' 5 0, n' 6 5, o' 7 (.mks 1 24 [.sl [.i .i64 0, .s []]] (.t 6) (.t 6)), m' 3
 7]) (.seq (q' ([z' 4 0]) (.block 0 (.loop (.seq (q' ([m' 8 4, m' 9 0, n' 10 9, r' 11 8 10]) (.cond (.t 11) .skip (.exit 0))) (.seq (.block 1 (g' [m' 14 3, m'
 15 4, m' 16 0, m' 17 4, i' 18 1 16 17, e' 19 1 18, c' 20 94 [19], i' 21 1 14 15, s' 1 21 20])) (g' [m' 12 4, a' 13 12, m' 4 13])))))) (q' ([m' 22 3, m' 2 22])
 .ret)))
theorem b5N : cmp Tryz.prog Tryz.f318 = some a7q := by kernel_rfl
theorem b8p (a : List c9) (hpre : (((a.length + i7 v7 a) : Nat) : Int) ≤ 1048576) : A0m Tryz.prog 318 [(false, [.sl false [.sl false [.i .i64 0, .s []] []] (a.map (c9.cells false false))])] [] (.one (false, [.sl true [.sl true [.i .i64 0, .s []] []] (a.map (c9.cells true true))])) := by
 refine spec_of2 true false none Tryz.func318 b5N (rvs := [.t 2]) (hΓ := mkCtx_ok (deep := true) (l := [(94, [], a5T)]) ⟨b3o, trivial⟩) (h := ?_)
 intro hb hE
 simp only [go_sem] at hb
 simp only [a7q, x']
 (try refine A2Z ?_); simp only [go_sem, a6P]; (repeat' first | apply CJ.mk | intro hc); all_goals try ((repeat' first | apply And.intro | intro hs) <;> (try simp only [go_sem, Bool.and_eq_false_iff] at hs) <;> omega)
 refine aw_loop2 true [] [0, 3] [] [] (fun i : {p : Nat × (List c9) // p.1 ≤ a.length ∧ p.2.length = a.length ∧ p.2.take p.1 = a.take p.1} => [(4, slV (.i .i64 i.1.1))]) (fun i => []) (fun i => [(896, [.sl true [.i .i64 0, .s []] []], i.1.2.map (c9.cells true true))]) (fun i => a.length - i.1.1) (⟨(0, List.replicate a.length default), by simp⟩) _ rfl ?_ ?_
 ·simp only [go_sem, a6P]
  all_goals first | omega | ((repeat' apply And.intro) <;> first | omega | rfl | skip)
 intro S0 hS0 i
 simp only [go_sem, a6P] at hS0
 obtain ⟨⟨i, L⟩, hi, hl, ht⟩ := i
 simp only at hi hl ht
 have hg := b2G v7 a i default rfl
 (try refine A2Z ?_); simp only [go_sem, a6P, hS0]; (repeat' first | apply CJ.mk | intro hc); all_goals try ((repeat' first | apply And.intro | intro hs) <;> (try simp only [go_sem, Bool.and_eq_false_iff] at hs) <;> omega)
 ·(refine lpK_n2 (⟨(i + 1, L.set i (a.getD i default)), by simp only; omega, by simp [hl], t5 hl ht (by omega)⟩) _ rfl ?_; simp only [go_sem, a6P, hS0]; first | done | ((repeat' apply And.intro) <;> first | omega | (refine w64 ?_ ?_ ?_ <;> omega) | rfl | skip))
 ·obtain rfl := o7 hl ht (by omega)
  rfl
 all_goals trace_state
noncomputable def a4n : CT := l8 (fun (x : (List c9)) h => b8p x h)
@[go_sem] theorem c5K (a : List c9) : a4n [(false, [.sl false [.sl false [.i .i64 0, .s []] []] (a.map (c9.cells false false))])] = some ((((a.length + i7 v7 a) : Nat) : Int) ≤ 1048576, [], .one (false, [.sl true [.sl true [.i .i64 0, .s []] []] (a.map (c9.cells true true))])) := f9 _ (by intro x y h; simp at h; simp_all) a
theorem b1x : OkC Tryz.prog 318 a4n := i3 _
def a8Q : ACode := q' ([o' 1 (.box 2 (.t 0)), w' 2 [.i .i64, .sl [.sl false [.i .i64 0, .s []] []]]]) (q' ([w' 3 [.i .i64, .sl [.sl false [.i .i64 0, .s []] []]]]) (q' ([f' 4 0 1,
 l' 5 4, f' 6 0 3, s' 1 6 5]) (q' ([f' 7 1 1, l' 8 7, c' 9 318 [8], f' 10 1 3, s' 1 10 9]) (q' ([e' 11 2 3, s' 2 2 11]) .ret))))
theorem b7I : cmp Tryz.prog Tryz.f259 = some a8Q := by kernel_rfl
theorem c0k (a : d8) (hpre : (a8c a : Int) ≤ 1048576) : A0m Tryz.prog 259 [(true, [.i .i64 a.Arity, .sl false [.sl false [.i .i64 0, .s []] []] (a.Rows.map (c9.cells false false))])] [] (.one (true, [.i .i64 a.Arity, .sl true [.sl true [.i .i64 0, .s []] []] (a.Rows.map (c9.cells true true))])) := by
 refine spec_of2 true false none Tryz.func259 b7I (rvs := [.c 2 true 2]) (hΓ := mkCtx_ok (deep := true) (l := [(318, [], a4n)]) ⟨b1x, trivial⟩) (h := ?_)
 intro hb hE
 simp only [go_sem] at hb
 simp only [a8Q, x']
 (try refine A2Z ?_); simp only [go_sem]; (repeat' first | apply CJ.mk | intro hc); all_goals try ((repeat' first | apply And.intro | intro hs) <;> (try simp only [go_sem, Bool.and_eq_false_iff] at hs) <;> omega)
 all_goals (simp only [a8c] at *; omega)
noncomputable def a5S : CT := l8 (fun (x : d8) h => c0k x h)
@[go_sem] theorem c6Y (x0 : Int) (x1 : List c9) : a5S [(true, [.i .i64 x0, .sl false [.sl false [.i .i64 0, .s []] []] (x1.map (c9.cells false false))])] = some ((a8c (d8.mk x0 x1) : Int) ≤ 1048576, [], .one (true, [.i .i64 ((d8.mk x0 x1).Arity), .sl true [.sl true [.i .i64 0, .s []] []] (((d8.mk x0 x1).Rows).map (c9.cells true true))])) := f9 _ (by rintro ⟨_, _⟩ ⟨_, _⟩ h; simp at h; simp_all) (d8.mk x0 x1)
theorem b3n : OkC Tryz.prog 259 a5S := i3 _
def a6w : ACode := q' ([o' 1 (.box 3 (.t 0)), w' 2 [.s, .i .i64, .sl [.sl false [.i .i64 0, .s []] []]]]) (q' ([w' 3 [.s, .i .i64, .sl [.sl false [.i .i64 0, .s []] []]]]) (q'
 ([f' 4 0 1, l' 5 4, f' 6 0 3, s' 1 6 5]) (q' ([f' 7 1 1, e' 8 2 7, c' 9 259 [8], f' 10 1 3, s' 2 10 9]) (q' ([e' 11 3 3, s' 3 2 11]) .ret))))
theorem b3L : cmp Tryz.prog Tryz.f175 = some a6w := by kernel_rfl
theorem b6E (a : d6) (hpre : (o6 a : Int) ≤ 1048576) : A0m Tryz.prog 175 [(true, [.s a.Name, .i .i64 a.Rel.Arity, .sl false [.sl false [.i .i64 0, .s []] []] (a.Rel.Rows.map (c9.cells false false))])] [] (.one (true, [.s a.Name, .i .i64 a.Rel.Arity, .sl true [.sl true [.i .i64 0, .s []] []] (a.Rel.Rows.map (c9.cells true true))])) := by
 refine spec_of2 true false none Tryz.func175 b3L (rvs := [.c 2 true 3]) (hΓ := mkCtx_ok (deep := true) (l := [(259, [], a5S)]) ⟨b3n, trivial⟩) (h := ?_)
 intro hb hE
 simp only [go_sem] at hb
 simp only [a6w, x']
 (try refine A2Z ?_); simp only [go_sem]; (repeat' first | apply CJ.mk | intro hc); all_goals try ((repeat' first | apply And.intro | intro hs) <;> (try simp only [go_sem, Bool.and_eq_false_iff] at hs) <;> omega)
 all_goals (simp only [o6] at *; omega)
noncomputable def a3h : CT := l8 (fun (x : d6) h => b6E x h)
@[go_sem] theorem c4f (x0 : List UInt8) (x1 : Int) (x2 : List c9) : a3h [(true, [.s x0, .i .i64 x1, .sl false [.sl false [.i .i64 0, .s []] []] (x2.map (c9.cells false false))])] = some ((o6 (d6.mk x0 (d8.mk x1 x2)) : Int) ≤ 1048576, [], .one (true, [.s ((d6.mk x0 (d8.mk x1 x2)).Name), .i .i64 (((d6.mk x0 (d8.mk x1 x2)).Rel).Arity), .sl true [.sl true [.i .i64 0, .s []] []] ((((d6.mk x0 (d8.mk x1 x2)).Rel).Rows).map (c9.cells true true))])) := f9 _ (by rintro ⟨_, ⟨_, _⟩⟩ ⟨_, ⟨_, _⟩⟩ h; simp at h; simp_all) (d6.mk x0 (d8.mk x1 x2))
theorem b0q : OkC Tryz.prog 175 a3h := i3 _
def a4P : ACode := q' ([o' 2 (.mov (.k (.v false [.nl [.s [], .i .i64 0, .sl false [.sl false [.i .i64 0, .s []] []] []]])))]) (q' ([m' 5 0, n' 6 5, o' 7 (.mks 3 48 [.s, .i .i64,
 .sl [.sl false [.i .i64 0, .s []] []]] (.t 6) (.t 6)), m' 3 7]) (.seq (q' ([z' 4 0]) (.block 0 (.loop (.seq (q' ([m' 8 4, m' 9 0, n' 10 9, r' 11 8 10]) (.cond
 (.t 11) .skip (.exit 0))) (.seq (.block 1 (g' [m' 14 3, m' 15 4, m' 16 0, m' 17 4, i' 18 3 16 17, e' 19 3 18, c' 20 175 [19], i' 21 3 14 15, s' 3 21 20])) (g'
 [m' 12 4, a' 13 12, m' 4 13])))))) (q' ([m' 22 3, m' 2 22]) .ret)))
theorem b2d : cmp Tryz.prog Tryz.f107 = some a4P := by kernel_rfl
theorem b4m (a : List d6) (hpre : (((a.length + i7 o6 a) : Nat) : Int) ≤ 1048576) : A0m Tryz.prog 107 [(false, [.sl false [.s [], .i .i64 0, .sl false [.sl false [.i .i64 0, .s []] []] []] (a.map (d6.cells false false))])] [] (.one (false, [.sl true [.s [], .i .i64 0, .sl true [.sl true [.i .i64 0, .s []] []] []] (a.map (d6.cells true true))])) := by
 refine spec_of2 true false none Tryz.func107 b2d (rvs := [.t 2]) (hΓ := mkCtx_ok (deep := true) (l := [(175, [], a3h)]) ⟨b0q, trivial⟩) (h := ?_)
 intro hb hE
 simp only [go_sem] at hb
 simp only [a4P, x']
 (try refine A2Z ?_); simp only [go_sem, a2F]; (repeat' first | apply CJ.mk | intro hc); all_goals try ((repeat' first | apply And.intro | intro hs) <;> (try simp only [go_sem, Bool.and_eq_false_iff] at hs) <;> omega)
 refine aw_loop2 true [] [0, 3] [] [] (fun i : {p : Nat × (List d6) // p.1 ≤ a.length ∧ p.2.length = a.length ∧ p.2.take p.1 = a.take p.1} => [(4, slV (.i .i64 i.1.1))]) (fun i => []) (fun i => [(896, [.s [], .i .i64 0, .sl true [.sl true [.i .i64 0, .s []] []] []], i.1.2.map (d6.cells true true))]) (fun i => a.length - i.1.1) (⟨(0, List.replicate a.length default), by simp⟩) _ rfl ?_ ?_
 ·simp only [go_sem, a2F]
  all_goals first | omega | ((repeat' apply And.intro) <;> first | omega | rfl | skip)
 intro S0 hS0 i
 simp only [go_sem, a2F] at hS0
 obtain ⟨⟨i, L⟩, hi, hl, ht⟩ := i
 simp only at hi hl ht
 have hg := b2G o6 a i default rfl
 (try refine A2Z ?_); simp only [go_sem, a2F, hS0]; (repeat' first | apply CJ.mk | intro hc); all_goals try ((repeat' first | apply And.intro | intro hs) <;> (try simp only [go_sem, Bool.and_eq_false_iff] at hs) <;> omega)
 ·(refine lpK_n2 (⟨(i + 1, L.set i (a.getD i default)), by simp only; omega, by simp [hl], t5 hl ht (by omega)⟩) _ rfl ?_; simp only [go_sem, a2F, hS0]; first | done | ((repeat' apply And.intro) <;> first | omega | (refine w64 ?_ ?_ ?_ <;> omega) | rfl | skip))
 ·obtain rfl := o7 hl ht (by omega)
  rfl
 all_goals trace_state
noncomputable def a1Z : CT := l8 (fun (x : (List d6)) h => b4m x h)
@[go_sem] theorem c2T (a : List d6) : a1Z [(false, [.sl false [.s [], .i .i64 0, .sl false [.sl false [.i .i64 0, .s []] []] []] (a.map (d6.cells false false))])] = some ((((a.length + i7 o6 a) : Nat) : Int) ≤ 1048576, [], .one (false, [.sl true [.s [], .i .i64 0, .sl true [.sl true [.i .i64 0, .s []] []] []] (a.map (d6.cells true true))])) := f9 _ (by intro x y h; simp at h; simp_all) a
theorem a9t : OkC Tryz.prog 107 a1Z := i3 _
def a6x : ACode := q' ([o' 1 (.box 1 (.t 0)), w' 2 [.sl [.s [], .i .i64 0, .sl false [.sl false [.i .i64 0, .s []] []] []]]]) (q' ([w' 3 [.sl [.s [], .i .i64 0, .sl false [.sl
 false [.i .i64 0, .s []] []] []]]]) (q' ([f' 4 0 1, l' 5 4, c' 6 107 [5], f' 7 0 3, s' 1 7 6]) (q' ([e' 8 1 3, s' 1 2 8]) .ret)))
theorem b3M : cmp Tryz.prog Tryz.f44 = some a6x := by kernel_rfl
theorem b6F (a : d7) (hpre : (a1J a : Int) ≤ 1048576) : A0m Tryz.prog 44 [(true, [.sl false [.s [], .i .i64 0, .sl false [.sl false [.i .i64 0, .s []] []] []] (a.Rels.map (d6.cells false false))])] [] (.one (true, [.sl true [.s [], .i .i64 0, .sl true [.sl true [.i .i64 0, .s []] []] []] (a.Rels.map (d6.cells true true))])) := by
 refine spec_of2 true false none Tryz.func44 b3M (rvs := [.c 2 true 1]) (hΓ := mkCtx_ok (deep := true) (l := [(107, [], a1Z)]) ⟨a9t, trivial⟩) (h := ?_)
 intro hb hE
 simp only [go_sem] at hb
 simp only [a6x, x']
 (try refine A2Z ?_); simp only [go_sem]; (repeat' first | apply CJ.mk | intro hc); all_goals try ((repeat' first | apply And.intro | intro hs) <;> (try simp only [go_sem, Bool.and_eq_false_iff] at hs) <;> omega)
 all_goals (simp only [a1J] at *; omega)
noncomputable def a3i : CT := l8 (fun (x : d7) h => b6F x h)
@[go_sem] theorem c4g (x0 : List d6) : a3i [(true, [.sl false [.s [], .i .i64 0, .sl false [.sl false [.i .i64 0, .s []] []] []] (x0.map (d6.cells false false))])] = some ((a1J (d7.mk x0) : Int) ≤ 1048576, [], .one (true, [.sl true [.s [], .i .i64 0, .sl true [.sl true [.i .i64 0, .s []] []] []] (((d7.mk x0).Rels).map (d6.cells true true))])) := f9 _ (by rintro ⟨_⟩ ⟨_⟩ h; simp at h; simp_all) (d7.mk x0)
theorem b0r : OkC Tryz.prog 44 a3i := i3 _
def a7g : ACode := q' ([b' 4 false]) (.seq (q' ([m' 6 0, n' 7 6, m' 8 1, n' 9 8, o' 10 (.bin .neq (.t 7) (.t 9))]) (.cond (.t 10) (q' ([b' 4 false]) .ret) .skip)) (.seq (q' ([z' 5
 0]) (.block 0 (.loop (.seq (q' ([m' 11 5, m' 12 0, n' 13 12, r' 14 11 13]) (.cond (.t 14) .skip (.exit 0))) (.seq (.block 1 (.seq (.reg true [m' 17 0, m' 18
 5, i' 19 1 17 18, e' 20 1 19, m' 21 1, m' 22 5, i' 23 1 21 22, e' 24 1 23, c' 25 96 [20, 24], o' 26 (.not (.t 25))]) (.cond (.t 26) (q' ([b' 4 false]) .ret)
 .skip))) (g' [m' 15 5, a' 16 15, m' 5 16])))))) (q' ([b' 4 true]) .ret)))
theorem b5D : cmp Tryz.prog Tryz.f130 = some a7g := by kernel_rfl
theorem b8f (a : List c9) (b : List c9) : A0m Tryz.prog 130 [(false, [.sl false [.sl false [.i .i64 0, .s []] []] (a.map (c9.cells false false))]), (false, [.sl false [.sl false [.i .i64 0, .s []] []] (b.map (c9.cells false false))])] [] (.one (false, [.b (decide (a = b))])) := by
 refine spec_of2 false false none Tryz.func130 b5D (rvs := [.t 4]) (hΓ := mkCtx_ok (deep := false) (l := [(96, [], a5N)]) ⟨b3i, trivial⟩) (h := ?_)
 intro hb hE
 simp only [go_sem] at hb
 simp only [a7g, x']
 (try refine A2Z ?_); simp only [go_sem]; (repeat' first | apply CJ.mk | intro hc); all_goals try ((repeat' first | apply And.intro | intro hs) <;> (try simp only [go_sem, Bool.and_eq_false_iff] at hs) <;> omega)
 ·symm
  rw [decide_eq_false_iff_not]
  rintro rfl
  simp at hc
 have hl : a.length = b.length := by simpa [Int.ofNat_inj] using hc
 refine aw_loop2 false [] [0, 1] [] [] (fun i : {i : Nat // i ≤ a.length ∧ a.take i = b.take i} => [(5, slV (.i .i64 i.1))]) (fun i => []) (fun i => []) (fun i => a.length - i.1) (⟨0, by simp⟩) _ rfl ?_ ?_
 ·simp only [go_sem]
  all_goals first | omega | ((repeat' apply And.intro) <;> first | omega | rfl | skip)
 intro S0 hS0 i
 simp only [go_sem] at hS0
 obtain ⟨i, hi, ht⟩ := i
 (try refine A2Z ?_); simp only [go_sem, hS0]; (repeat' first | apply CJ.mk | intro hc); all_goals try ((repeat' first | apply And.intro | intro hs) <;> (try simp only [go_sem, Bool.and_eq_false_iff] at hs) <;> omega)
 ·exact (decide_eq_false (a0u default (i := i) (by simpa using hc))).symm
 ·(refine lpK_n2 (⟨i + 1, by omega, y7 ht (by omega) (by omega) (d := default) (by simpa using hc)⟩) _ rfl ?_; simp only [go_sem, hS0]; first | done | ((repeat' apply And.intro) <;> first | omega | (refine w64 ?_ ?_ ?_ <;> omega) | rfl | skip))
 ·exact (decide_eq_true (o7 hl ht (by omega))).symm
 all_goals trace_state
noncomputable def a4h : CT := j7 (fun (x : (List c9) × (List c9)) => b8f x.1 x.2)
@[go_sem] theorem c5A (a b : List c9) : a4h [(false, [.sl false [.sl false [.i .i64 0, .s []] []] (a.map (c9.cells false false))]), (false, [.sl false [.sl false [.i .i64 0, .s []] []] (b.map (c9.cells false false))])] = some (True, [], .one (false, [.b (decide (a = b))])) := f7 _ (by rintro ⟨_, _⟩ ⟨_, _⟩ h; simp at h; simp_all) (a, b)
theorem b1r : OkC Tryz.prog 130 a4h := f8 _
def a8K : ACode := q' ([o' 2 (.box 2 (.t 0)), o' 3 (.box 2 (.t 1)), b' 4 false]) (.seq (q' ([f' 5 0 2, l' 6 5, f' 7 0 3, l' 8 7, o' 9 (.bin .neq (.t 6) (.t 8))]) (.cond (.t 9) (q'
 ([b' 4 false]) .ret) .skip)) (.seq (q' ([f' 10 1 2, l' 11 10, f' 12 1 3, l' 13 12, c' 14 130 [11, 13], o' 15 (.not (.t 14))]) (.cond (.t 15) (q' ([b' 4
 false]) .ret) .skip)) (q' ([b' 4 true]) .ret)))
theorem b7C : cmp Tryz.prog Tryz.f57 = some a8K := by kernel_rfl
theorem c0e (a : d8) (b : d8) : A0m Tryz.prog 57 [(true, [.i .i64 a.Arity, .sl false [.sl false [.i .i64 0, .s []] []] (a.Rows.map (c9.cells false false))]), (true, [.i .i64 b.Arity, .sl false [.sl false [.i .i64 0, .s []] []] (b.Rows.map (c9.cells false false))])] [] (.one (false, [.b (decide (a = b))])) := by
 refine spec_of2 false false none Tryz.func57 b7C (rvs := [.t 4]) (hΓ := mkCtx_ok (deep := false) (l := [(130, [], a4h)]) ⟨b1r, trivial⟩) (h := ?_)
 intro hb hE
 simp only [go_sem] at hb
 simp only [a8K, x']
 (try refine A2Z ?_); simp only [go_sem]; (repeat' first | apply CJ.mk | intro hc); all_goals try ((repeat' first | apply And.intro | intro hs) <;> (try simp only [go_sem, Bool.and_eq_false_iff] at hs) <;> omega)
 all_goals (cases a; cases b; simp_all)
noncomputable def a5M : CT := j7 (fun (x : d8 × d8) => c0e x.1 x.2)
@[go_sem] theorem c6S (x0 : Int) (x1 : List c9) (x2 : Int) (x3 : List c9) : a5M [(true, [.i .i64 x0, .sl false [.sl false [.i .i64 0, .s []] []] (x1.map (c9.cells false false))]), (true, [.i .i64 x2, .sl false [.sl false [.i .i64 0, .s []] []] (x3.map (c9.cells false false))])] = some (True, [], .one (false, [.b (decide ((d8.mk x0 x1) = (d8.mk x2 x3)))])) := f7 _ (by rintro ⟨⟨_, _⟩, ⟨_, _⟩⟩ ⟨⟨_, _⟩, ⟨_, _⟩⟩ h; simp at h; simp_all) ((d8.mk x0 x1), (d8.mk x2 x3))
theorem b3h : OkC Tryz.prog 57 a5M := f8 _
def a6o : ACode := q' ([o' 2 (.box 3 (.t 0)), o' 3 (.box 3 (.t 1)), b' 4 false]) (.seq (q' ([f' 5 0 2, l' 6 5, f' 7 0 3, l' 8 7, o' 9 (.bin .neq (.t 6) (.t 8))]) (.cond (.t 9) (q'
 ([b' 4 false]) .ret) .skip)) (.seq (q' ([f' 10 1 2, e' 11 2 10, f' 12 1 3, e' 13 2 12, c' 14 57 [11, 13], o' 15 (.not (.t 14))]) (.cond (.t 15) (q' ([b' 4
 false]) .ret) .skip)) (q' ([b' 4 true]) .ret)))
theorem b3D : cmp Tryz.prog Tryz.f143 = some a6o := by kernel_rfl
theorem b6w (a : d6) (b : d6) : A0m Tryz.prog 143 [(true, [.s a.Name, .i .i64 a.Rel.Arity, .sl false [.sl false [.i .i64 0, .s []] []] (a.Rel.Rows.map (c9.cells false false))]), (true, [.s b.Name, .i .i64 b.Rel.Arity, .sl false [.sl false [.i .i64 0, .s []] []] (b.Rel.Rows.map (c9.cells false false))])] [] (.one (false, [.b (decide (a = b))])) := by
 refine spec_of2 false false none Tryz.func143 b3D (rvs := [.t 4]) (hΓ := mkCtx_ok (deep := false) (l := [(57, [], a5M)]) ⟨b3h, trivial⟩) (h := ?_)
 intro hb hE
 simp only [go_sem] at hb
 simp only [a6o, x']
 (try refine A2Z ?_); simp only [go_sem]; (repeat' first | apply CJ.mk | intro hc); all_goals try ((repeat' first | apply And.intro | intro hs) <;> (try simp only [go_sem, Bool.and_eq_false_iff] at hs) <;> omega)
 all_goals (cases a; cases b; simp_all)
noncomputable def a3b : CT := j7 (fun (x : d6 × d6) => b6w x.1 x.2)
@[go_sem] theorem c3X (x0 : List UInt8) (x1 : Int) (x2 : List c9) (x3 : List UInt8) (x4 : Int) (x5 : List c9) : a3b [(true, [.s x0, .i .i64 x1, .sl false [.sl false [.i .i64 0, .s []] []] (x2.map (c9.cells false false))]), (true, [.s x3, .i .i64 x4, .sl false [.sl false [.i .i64 0, .s []] []] (x5.map (c9.cells false false))])] = some (True, [], .one (false, [.b (decide ((d6.mk x0 (d8.mk x1 x2)) = (d6.mk x3 (d8.mk x4 x5))))])) := f7 _ (by rintro ⟨⟨_, ⟨_, _⟩⟩, ⟨_, ⟨_, _⟩⟩⟩ ⟨⟨_, ⟨_, _⟩⟩, ⟨_, ⟨_, _⟩⟩⟩ h; simp at h; simp_all) ((d6.mk x0 (d8.mk x1 x2)), (d6.mk x3 (d8.mk x4 x5)))
theorem b0k : OkC Tryz.prog 143 a3b := f8 _
def a4E : ACode := q' ([b' 4 false]) (.seq (q' ([m' 6 0, n' 7 6, m' 8 1, n' 9 8, o' 10 (.bin .neq (.t 7) (.t 9))]) (.cond (.t 10) (q' ([b' 4 false]) .ret) .skip)) (.seq (q' ([z' 5
 0]) (.block 0 (.loop (.seq (q' ([m' 11 5, m' 12 0, n' 13 12, r' 14 11 13]) (.cond (.t 14) .skip (.exit 0))) (.seq (.block 1 (.seq (.reg true [m' 17 0, m' 18
 5, i' 19 3 17 18, e' 20 3 19, m' 21 1, m' 22 5, i' 23 3 21 22, e' 24 3 23, c' 25 143 [20, 24], o' 26 (.not (.t 25))]) (.cond (.t 26) (q' ([b' 4 false]) .ret)
 .skip))) (g' [m' 15 5, a' 16 15, m' 5 16])))))) (q' ([b' 4 true]) .ret)))
theorem b1S : cmp Tryz.prog Tryz.f68 = some a4E := by kernel_rfl
theorem b4b (a : List d6) (b : List d6) : A0m Tryz.prog 68 [(false, [.sl false [.s [], .i .i64 0, .sl false [.sl false [.i .i64 0, .s []] []] []] (a.map (d6.cells false false))]), (false, [.sl false [.s [], .i .i64 0, .sl false [.sl false [.i .i64 0, .s []] []] []] (b.map (d6.cells false false))])] [] (.one (false, [.b (decide (a = b))])) := by
 refine spec_of2 false false none Tryz.func68 b1S (rvs := [.t 4]) (hΓ := mkCtx_ok (deep := false) (l := [(143, [], a3b)]) ⟨b0k, trivial⟩) (h := ?_)
 intro hb hE
 simp only [go_sem] at hb
 simp only [a4E, x']
 (try refine A2Z ?_); simp only [go_sem]; (repeat' first | apply CJ.mk | intro hc); all_goals try ((repeat' first | apply And.intro | intro hs) <;> (try simp only [go_sem, Bool.and_eq_false_iff] at hs) <;> omega)
 ·symm
  rw [decide_eq_false_iff_not]
  rintro rfl
  simp at hc
 have hl : a.length = b.length := by simpa [Int.ofNat_inj] using hc
 refine aw_loop2 false [] [0, 1] [] [] (fun i : {i : Nat // i ≤ a.length ∧ a.take i = b.take i} => [(5, slV (.i .i64 i.1))]) (fun i => []) (fun i => []) (fun i => a.length - i.1) (⟨0, by simp⟩) _ rfl ?_ ?_
 ·simp only [go_sem]
  all_goals first | omega | ((repeat' apply And.intro) <;> first | omega | rfl | skip)
 intro S0 hS0 i
 simp only [go_sem] at hS0
 obtain ⟨i, hi, ht⟩ := i
 (try refine A2Z ?_); simp only [go_sem, hS0]; (repeat' first | apply CJ.mk | intro hc); all_goals try ((repeat' first | apply And.intro | intro hs) <;> (try simp only [go_sem, Bool.and_eq_false_iff] at hs) <;> omega)
 ·exact (decide_eq_false (a0u default (i := i) (by simpa using hc))).symm
 ·(refine lpK_n2 (⟨i + 1, by omega, y7 ht (by omega) (by omega) (d := default) (by simpa using hc)⟩) _ rfl ?_; simp only [go_sem, hS0]; first | done | ((repeat' apply And.intro) <;> first | omega | (refine w64 ?_ ?_ ?_ <;> omega) | rfl | skip))
 ·exact (decide_eq_true (o7 hl ht (by omega))).symm
 all_goals trace_state
noncomputable def a1P : CT := j7 (fun (x : (List d6) × (List d6)) => b4b x.1 x.2)
@[go_sem] theorem c2I (a b : List d6) : a1P [(false, [.sl false [.s [], .i .i64 0, .sl false [.sl false [.i .i64 0, .s []] []] []] (a.map (d6.cells false false))]), (false, [.sl false [.s [], .i .i64 0, .sl false [.sl false [.i .i64 0, .s []] []] []] (b.map (d6.cells false false))])] = some (True, [], .one (false, [.b (decide (a = b))])) := f7 _ (by rintro ⟨_, _⟩ ⟨_, _⟩ h; simp at h; simp_all) (a, b)
theorem a9j : OkC Tryz.prog 68 a1P := f8 _
def a6p : ACode := q' ([o' 2 (.box 1 (.t 0)), o' 3 (.box 1 (.t 1)), b' 4 false]) (.seq (q' ([f' 5 0 2, l' 6 5, f' 7 0 3, l' 8 7, c' 9 68 [6, 8], o' 10 (.not (.t 9))]) (.cond (.t
 10) (q' ([b' 4 false]) .ret) .skip)) (q' ([b' 4 true]) .ret))
theorem b3E : cmp Tryz.prog Tryz.f16 = some a6p := by kernel_rfl
theorem b6x (a : d7) (b : d7) : A0m Tryz.prog 16 [(true, [.sl false [.s [], .i .i64 0, .sl false [.sl false [.i .i64 0, .s []] []] []] (a.Rels.map (d6.cells false false))]), (true, [.sl false [.s [], .i .i64 0, .sl false [.sl false [.i .i64 0, .s []] []] []] (b.Rels.map (d6.cells false false))])] [] (.one (false, [.b (decide (a = b))])) := by
 refine spec_of2 false false none Tryz.func16 b3E (rvs := [.t 4]) (hΓ := mkCtx_ok (deep := false) (l := [(68, [], a1P)]) ⟨a9j, trivial⟩) (h := ?_)
 intro hb hE
 simp only [go_sem] at hb
 simp only [a6p, x']
 (try refine A2Z ?_); simp only [go_sem]; (repeat' first | apply CJ.mk | intro hc); all_goals try ((repeat' first | apply And.intro | intro hs) <;> (try simp only [go_sem, Bool.and_eq_false_iff] at hs) <;> omega)
 all_goals (cases a; cases b; simp_all)
noncomputable def a3c : CT := j7 (fun (x : d7 × d7) => b6x x.1 x.2)
@[go_sem] theorem c3Y (x0 x1 : List d6) : a3c [(true, [.sl false [.s [], .i .i64 0, .sl false [.sl false [.i .i64 0, .s []] []] []] (x0.map (d6.cells false false))]), (true, [.sl false [.s [], .i .i64 0, .sl false [.sl false [.i .i64 0, .s []] []] []] (x1.map (d6.cells false false))])] = some (True, [], .one (false, [.b (decide ((d7.mk x0) = (d7.mk x1)))])) := f7 _ (by rintro ⟨⟨_⟩, ⟨_⟩⟩ ⟨⟨_⟩, ⟨_⟩⟩ h; simp at h; simp_all) ((d7.mk x0), (d7.mk x1))
theorem b0l : OkC Tryz.prog 16 a3c := f8 _
end Go.Aw
