/- Stores and steps: sizes, copies, equalities. No condition. -/
import Derived.Test.YthlbadfickhkfaaGreatzgB0
import Derived.Test.YthlbadfickhkfaaGreatzgB2
namespace Go.Aw
open Go.Proofs
attribute [local irreducible] aft blk lpK retK AW A0l
set_option linter.unusedVariables false
set_option linter.unusedSimpArgs false
set_option maxRecDepth 100000
def w4 (x : d6) : Nat := (x.V.length + l3 s8 x.V)
def b0B (x : d9) : Nat := (x.Rows.length + l3 w4 x.Rows)
def o5 (x : d4) : Nat := x.Name.length + b0B x.Rel
def a5x (x : d8) : Nat := (x.Rels.length + l3 o5 x.Rels)
def a4N : ACode := q' ([z' 4 0]) (q' ([m' 6 1, m' 7 0, n' 8 7, o' 9 (.bin .sub (.t 6) (.t 8)), m' 1 9]) (.seq (q' ([m' 10 1, o' 11 (.bin .lss (.t 10) (k' 0))]) (.cond (.t 11) (q'
 ([o' 4 (.mov (.k (.v false [.c (.i .i64 (-1))])))]) .ret) .skip)) (.seq (q' ([z' 5 0]) (.block 0 (.loop (.seq (q' ([m' 12 5, m' 13 0, n' 14 13, r' 15 12 14])
 (.cond (.t 15) .skip (.exit 0))) (.seq (.block 1 (q' ([m' 18 0, m' 19 5, i' 20 2 18 19, e' 21 2 20, m' 22 1, c' 23 241 [21, 22], m' 1 23]) (q' ([m' 24 1, o'
 25 (.bin .lss (.t 24) (k' 0))]) (.cond (.t 25) (q' ([o' 4 (.mov (.k (.v false [.c (.i .i64 (-1))])))]) .ret) .skip)))) (g' [m' 16 5, a' 17 16, m' 5 17]))))))
 (q' ([m' 26 1, m' 4 26]) .ret))))
theorem b2Y : cmp Tryz.prog Tryz.f158 = some a4N := by kernel_rfl
theorem b5j (a : List c9) (left : Int) (hpre : 0 ≤ left ∧ left ≤ 1048576) : A0l Tryz.prog 158 [(false, [.sl false [.i .i64 0, .s []] (a.map c9.cells)]), (false, [.i .i64 left])] [] (.one (false, [.i .i64 (szR left ((a.length + l3 s8 a) : Nat))])) := by
 refine spec_of2 false false none Tryz.func158 b2Y (rvs := [.t 4]) (hΓ := mkCtx_ok (deep := false) (l := [(241, [], a0C)]) ⟨a3W, trivial⟩) (h := ?_)
 intro hb hE
 simp only [go_sem] at hb
 simp only [a4N, x']
 (try refine A2V ?_); simp only [go_sem]; (repeat' first | apply CJ.mk | intro hc); all_goals try ((repeat' first | apply And.intro | intro hs) <;> (try simp only [go_sem, Bool.and_eq_false_iff] at hs) <;> omega)
 ·all_goals ((repeat (simp (disch := omega) only [t8] at *)) <;> (try simp only [szR, szR] at *) <;> (first | omega | (split <;> omega)))
 have hw := t8 (l := left) (n := a.length) (by omega) (by omega) (by omega) (by omega)
 rw [hw] at hc
 refine aw_loop2 false [] [0] [] [] (fun i : {i : Nat // i ≤ a.length ∧ (a.length : Int) + (l3 s8 (a.take i) : Nat) ≤ left} => [(5, slV (.i .i64 i.1)), (1, slV (.i .i64 (left - a.length - (l3 s8 (a.take i.1) : Nat))))]) (fun i => []) (fun i => []) (fun i => a.length - i.1) (⟨0, by simp only [List.take_zero, a1H]; omega⟩) _ rfl ?_ ?_
 ·simp only [go_sem, hw]
  all_goals first | omega | ((repeat' apply And.intro) <;> first | omega | rfl | skip)
 intro S0 hS0 i
 simp only [go_sem, hw] at hS0
 obtain ⟨i, hi, ht⟩ := i
 (try refine A2V ?_); simp only [go_sem, hw, hS0]; (repeat' first | apply CJ.mk | intro hc); all_goals try ((repeat' first | apply And.intro | intro hs) <;> (try simp only [go_sem, Bool.and_eq_false_iff] at hs) <;> omega)
 ·have h1 := j3 s8 (default : c9) (show i < a.length by omega)
  have h2 := u3 s8 a (i + 1)
  all_goals ((repeat (simp (disch := omega) only [t8] at *)) <;> (try simp only [szR, szR] at *) <;> (first | omega | (split <;> omega)))
 ·have h1 := j3 s8 (default : c9) (show i < a.length by omega)
  (refine lpK_n2 (⟨i + 1, by omega, by unfold szR at hc; split at hc <;> omega⟩) _ rfl ?_; simp only [go_sem, hw, hS0]; first | done | ((repeat' apply And.intro) <;> first | omega | (refine w64 ?_ ?_ ?_ <;> omega) | rfl | skip))
  rw [h1]
  unfold szR at hc ⊢
  split at hc <;> omega
 ·have h1 := a3y s8 (show ¬ i < a.length by omega)
  all_goals ((repeat (simp (disch := omega) only [t8] at *)) <;> (try simp only [szR, szR] at *) <;> (first | omega | (split <;> omega)))
 all_goals all_goals ((repeat (simp (disch := omega) only [t8] at *)) <;> (try simp only [szR, szR] at *) <;> (first | omega | (split <;> omega)))
noncomputable def a1Q : CT := o6 (fun (x : (List c9) × Int) h => b5j x.1 x.2 h)
@[go_sem] theorem c3C (a : List c9) (x0 : Int) : a1Q [(false, [.sl false [.i .i64 0, .s []] (a.map c9.cells)]), (false, [.i .i64 x0])] = some (0 ≤ x0 ∧ x0 ≤ 1048576, [], .one (false, [.i .i64 (szR x0 ((a.length + l3 s8 a) : Nat))])) := i6 _ (by rintro ⟨_, _⟩ ⟨_, _⟩ h; simp at h; simp_all) (a, x0)
theorem a9V : OkC Tryz.prog 158 a1Q := i7 _
def a9s : ACode := q' ([o' 2 (.box 1 (.t 0)), z' 4 0]) (q' ([f' 5 0 2, l' 6 5, m' 7 1, c' 8 158 [6, 7], m' 1 8]) (.seq (q' ([m' 9 1, o' 10 (.bin .lss (.t 9) (k' 0))]) (.cond (.t
 10) (q' ([o' 4 (.mov (.k (.v false [.c (.i .i64 (-1))])))]) .ret) .skip)) (q' ([m' 11 1, m' 4 11]) .ret)))
theorem b8r : cmp Tryz.prog Tryz.f92 = some a9s := by kernel_rfl
theorem c0M (a : d6) (left : Int) (hpre : 0 ≤ left ∧ left ≤ 1048576) : A0l Tryz.prog 92 [(true, [.sl false [.i .i64 0, .s []] (a.V.map c9.cells)]), (false, [.i .i64 left])] [] (.one (false, [.i .i64 (szR left (w4 a : Nat))])) := by
 refine spec_of2 false false none Tryz.func92 b8r (rvs := [.t 4]) (hΓ := mkCtx_ok (deep := false) (l := [(158, [], a1Q)]) ⟨a9V, trivial⟩) (h := ?_)
 intro hb hE
 simp only [go_sem] at hb
 simp only [a9s, x']
 (try refine A2V ?_); simp only [go_sem]; (repeat' first | apply CJ.mk | intro hc); all_goals try ((repeat' first | apply And.intro | intro hs) <;> (try simp only [go_sem, Bool.and_eq_false_iff] at hs) <;> omega)
 all_goals ((repeat (simp (disch := omega) only [t8] at *)) <;> (try simp only [szR, w4] at *) <;> (first | omega | (split <;> omega)))
noncomputable def a5X : CT := o6 (fun (x : d6 × Int) h => c0M x.1 x.2 h)
@[go_sem] theorem c7F (x0 : List c9) (x1 : Int) : a5X [(true, [.sl false [.i .i64 0, .s []] (x0.map c9.cells)]), (false, [.i .i64 x1])] = some (0 ≤ x1 ∧ x1 ≤ 1048576, [], .one (false, [.i .i64 (szR x1 (w4 (d6.mk x0) : Nat))])) := i6 _ (by rintro ⟨⟨_⟩, _⟩ ⟨⟨_⟩, _⟩ h; simp at h; simp_all) ((d6.mk x0), x1)
theorem b4h : OkC Tryz.prog 92 a5X := i7 _
def a7K : ACode := q' ([z' 4 0]) (q' ([m' 6 1, m' 7 0, n' 8 7, o' 9 (.bin .sub (.t 6) (.t 8)), m' 1 9]) (.seq (q' ([m' 10 1, o' 11 (.bin .lss (.t 10) (k' 0))]) (.cond (.t 11) (q'
 ([o' 4 (.mov (.k (.v false [.c (.i .i64 (-1))])))]) .ret) .skip)) (.seq (q' ([z' 5 0]) (.block 0 (.loop (.seq (q' ([m' 12 5, m' 13 0, n' 14 13, r' 15 12 14])
 (.cond (.t 15) .skip (.exit 0))) (.seq (.block 1 (q' ([m' 18 0, m' 19 5, i' 20 1 18 19, e' 21 1 20, m' 22 1, c' 23 92 [21, 22], m' 1 23]) (q' ([m' 24 1, o' 25
 (.bin .lss (.t 24) (k' 0))]) (.cond (.t 25) (q' ([o' 4 (.mov (.k (.v false [.c (.i .i64 (-1))])))]) .ret) .skip)))) (g' [m' 16 5, a' 17 16, m' 5 17])))))) (q'
 ([m' 26 1, m' 4 26]) .ret))))
theorem b6z : cmp Tryz.prog Tryz.f317 = some a7K := by kernel_rfl
theorem b8W (a : List d6) (left : Int) (hpre : 0 ≤ left ∧ left ≤ 1048576) : A0l Tryz.prog 317 [(false, [.sl false [.sl false [.i .i64 0, .s []] []] (a.map (d6.cells false false))]), (false, [.i .i64 left])] [] (.one (false, [.i .i64 (szR left ((a.length + l3 w4 a) : Nat))])) := by
 refine spec_of2 false false none Tryz.func317 b6z (rvs := [.t 4]) (hΓ := mkCtx_ok (deep := false) (l := [(92, [], a5X)]) ⟨b4h, trivial⟩) (h := ?_)
 intro hb hE
 simp only [go_sem] at hb
 simp only [a7K, x']
 (try refine A2V ?_); simp only [go_sem]; (repeat' first | apply CJ.mk | intro hc); all_goals try ((repeat' first | apply And.intro | intro hs) <;> (try simp only [go_sem, Bool.and_eq_false_iff] at hs) <;> omega)
 ·all_goals ((repeat (simp (disch := omega) only [t8] at *)) <;> (try simp only [szR, szR] at *) <;> (first | omega | (split <;> omega)))
 have hw := t8 (l := left) (n := a.length) (by omega) (by omega) (by omega) (by omega)
 rw [hw] at hc
 refine aw_loop2 false [] [0] [] [] (fun i : {i : Nat // i ≤ a.length ∧ (a.length : Int) + (l3 w4 (a.take i) : Nat) ≤ left} => [(5, slV (.i .i64 i.1)), (1, slV (.i .i64 (left - a.length - (l3 w4 (a.take i.1) : Nat))))]) (fun i => []) (fun i => []) (fun i => a.length - i.1) (⟨0, by simp only [List.take_zero, a1H]; omega⟩) _ rfl ?_ ?_
 ·simp only [go_sem, hw]
  all_goals first | omega | ((repeat' apply And.intro) <;> first | omega | rfl | skip)
 intro S0 hS0 i
 simp only [go_sem, hw] at hS0
 obtain ⟨i, hi, ht⟩ := i
 (try refine A2V ?_); simp only [go_sem, hw, hS0]; (repeat' first | apply CJ.mk | intro hc); all_goals try ((repeat' first | apply And.intro | intro hs) <;> (try simp only [go_sem, Bool.and_eq_false_iff] at hs) <;> omega)
 ·have h1 := j3 w4 (default : d6) (show i < a.length by omega)
  have h2 := u3 w4 a (i + 1)
  all_goals ((repeat (simp (disch := omega) only [t8] at *)) <;> (try simp only [szR, szR] at *) <;> (first | omega | (split <;> omega)))
 ·have h1 := j3 w4 (default : d6) (show i < a.length by omega)
  (refine lpK_n2 (⟨i + 1, by omega, by unfold szR at hc; split at hc <;> omega⟩) _ rfl ?_; simp only [go_sem, hw, hS0]; first | done | ((repeat' apply And.intro) <;> first | omega | (refine w64 ?_ ?_ ?_ <;> omega) | rfl | skip))
  rw [h1]
  unfold szR at hc ⊢
  split at hc <;> omega
 ·have h1 := a3y w4 (show ¬ i < a.length by omega)
  all_goals ((repeat (simp (disch := omega) only [t8] at *)) <;> (try simp only [szR, szR] at *) <;> (first | omega | (split <;> omega)))
 all_goals all_goals ((repeat (simp (disch := omega) only [t8] at *)) <;> (try simp only [szR, szR] at *) <;> (first | omega | (split <;> omega)))
noncomputable def a4r : CT := o6 (fun (x : (List d6) × Int) h => b8W x.1 x.2 h)
@[go_sem] theorem c6w (a : List d6) (x0 : Int) : a4r [(false, [.sl false [.sl false [.i .i64 0, .s []] []] (a.map (d6.cells false false))]), (false, [.i .i64 x0])] = some (0 ≤ x0 ∧ x0 ≤ 1048576, [], .one (false, [.i .i64 (szR x0 ((a.length + l3 w4 a) : Nat))])) := i6 _ (by rintro ⟨_, _⟩ ⟨_, _⟩ h; simp at h; simp_all) (a, x0)
theorem b2x : OkC Tryz.prog 317 a4r := i7 _
def a9r : ACode := q' ([o' 2 (.box 2 (.t 0)), z' 4 0]) (q' ([f' 5 1 2, l' 6 5, m' 7 1, c' 8 317 [6, 7], m' 1 8]) (.seq (q' ([m' 9 1, o' 10 (.bin .lss (.t 9) (k' 0))]) (.cond (.t
 10) (q' ([o' 4 (.mov (.k (.v false [.c (.i .i64 (-1))])))]) .ret) .skip)) (q' ([m' 11 1, m' 4 11]) .ret)))
theorem b8q : cmp Tryz.prog Tryz.f257 = some a9r := by kernel_rfl
theorem c0L (a : d9) (left : Int) (hpre : 0 ≤ left ∧ left ≤ 1048576) : A0l Tryz.prog 257 [(true, [.i .i64 a.Arity, .sl false [.sl false [.i .i64 0, .s []] []] (a.Rows.map (d6.cells false false))]), (false, [.i .i64 left])] [] (.one (false, [.i .i64 (szR left (b0B a : Nat))])) := by
 refine spec_of2 false false none Tryz.func257 b8q (rvs := [.t 4]) (hΓ := mkCtx_ok (deep := false) (l := [(317, [], a4r)]) ⟨b2x, trivial⟩) (h := ?_)
 intro hb hE
 simp only [go_sem] at hb
 simp only [a9r, x']
 (try refine A2V ?_); simp only [go_sem]; (repeat' first | apply CJ.mk | intro hc); all_goals try ((repeat' first | apply And.intro | intro hs) <;> (try simp only [go_sem, Bool.and_eq_false_iff] at hs) <;> omega)
 all_goals ((repeat (simp (disch := omega) only [t8] at *)) <;> (try simp only [szR, b0B] at *) <;> (first | omega | (split <;> omega)))
noncomputable def a5W : CT := o6 (fun (x : d9 × Int) h => c0L x.1 x.2 h)
@[go_sem] theorem c7E (x0 : Int) (x1 : List d6) (x2 : Int) : a5W [(true, [.i .i64 x0, .sl false [.sl false [.i .i64 0, .s []] []] (x1.map (d6.cells false false))]), (false, [.i .i64 x2])] = some (0 ≤ x2 ∧ x2 ≤ 1048576, [], .one (false, [.i .i64 (szR x2 (b0B (d9.mk x0 x1) : Nat))])) := i6 _ (by rintro ⟨⟨_, _⟩, _⟩ ⟨⟨_, _⟩, _⟩ h; simp at h; simp_all) ((d9.mk x0 x1), x2)
theorem b4g : OkC Tryz.prog 257 a5W := i7 _
def a6I : ACode := q' ([o' 2 (.box 3 (.t 0)), z' 4 0]) (q' ([m' 5 1, f' 6 0 2, l' 7 6, o' 8 (.lens (.t 7)), o' 9 (.bin .sub (.t 5) (.t 8)), m' 1 9]) (.seq (q' ([m' 10 1, o' 11
 (.bin .lss (.t 10) (k' 0))]) (.cond (.t 11) (q' ([o' 4 (.mov (.k (.v false [.c (.i .i64 (-1))])))]) .ret) .skip)) (q' ([f' 12 1 2, e' 13 2 12, m' 14 1, c' 15
 257 [13, 14], m' 1 15]) (.seq (q' ([m' 16 1, o' 17 (.bin .lss (.t 16) (k' 0))]) (.cond (.t 17) (q' ([o' 4 (.mov (.k (.v false [.c (.i .i64 (-1))])))]) .ret)
 .skip)) (q' ([m' 18 1, m' 4 18]) .ret)))))
theorem b4H : cmp Tryz.prog Tryz.f172 = some a6I := by kernel_rfl
theorem b7o (a : d4) (left : Int) (hpre : 0 ≤ left ∧ left ≤ 1048576) : A0l Tryz.prog 172 [(true, [.s a.Name, .i .i64 a.Rel.Arity, .sl false [.sl false [.i .i64 0, .s []] []] (a.Rel.Rows.map (d6.cells false false))]), (false, [.i .i64 left])] [] (.one (false, [.i .i64 (szR left (o5 a : Nat))])) := by
 refine spec_of2 false false none Tryz.func172 b4H (rvs := [.t 4]) (hΓ := mkCtx_ok (deep := false) (l := [(257, [], a5W)]) ⟨b4g, trivial⟩) (h := ?_)
 intro hb hE
 simp only [go_sem] at hb
 simp only [a6I, x']
 (try refine A2V ?_); simp only [go_sem]; (repeat' first | apply CJ.mk | intro hc); all_goals try ((repeat' first | apply And.intro | intro hs) <;> (try simp only [go_sem, Bool.and_eq_false_iff] at hs) <;> omega)
 all_goals ((repeat (simp (disch := omega) only [t8] at *)) <;> (try simp only [szR, o5] at *) <;> (first | omega | (split <;> omega)))
noncomputable def a3f : CT := o6 (fun (x : d4 × Int) h => b7o x.1 x.2 h)
@[go_sem] theorem c4S (x0 : List UInt8) (x1 : Int) (x2 : List d6) (x3 : Int) : a3f [(true, [.s x0, .i .i64 x1, .sl false [.sl false [.i .i64 0, .s []] []] (x2.map (d6.cells false false))]), (false, [.i .i64 x3])] = some (0 ≤ x3 ∧ x3 ≤ 1048576, [], .one (false, [.i .i64 (szR x3 (o5 (d4.mk x0 (d9.mk x1 x2)) : Nat))])) := i6 _ (by rintro ⟨⟨_, ⟨_, _⟩⟩, _⟩ ⟨⟨_, ⟨_, _⟩⟩, _⟩ h; simp at h; simp_all) ((d4.mk x0 (d9.mk x1 x2)), x3)
theorem b1g : OkC Tryz.prog 172 a3f := i7 _
def a4M : ACode := q' ([z' 4 0]) (q' ([m' 6 1, m' 7 0, n' 8 7, o' 9 (.bin .sub (.t 6) (.t 8)), m' 1 9]) (.seq (q' ([m' 10 1, o' 11 (.bin .lss (.t 10) (k' 0))]) (.cond (.t 11) (q'
 ([o' 4 (.mov (.k (.v false [.c (.i .i64 (-1))])))]) .ret) .skip)) (.seq (q' ([z' 5 0]) (.block 0 (.loop (.seq (q' ([m' 12 5, m' 13 0, n' 14 13, r' 15 12 14])
 (.cond (.t 15) .skip (.exit 0))) (.seq (.block 1 (q' ([m' 18 0, m' 19 5, i' 20 3 18 19, e' 21 3 20, m' 22 1, c' 23 172 [21, 22], m' 1 23]) (q' ([m' 24 1, o'
 25 (.bin .lss (.t 24) (k' 0))]) (.cond (.t 25) (q' ([o' 4 (.mov (.k (.v false [.c (.i .i64 (-1))])))]) .ret) .skip)))) (g' [m' 16 5, a' 17 16, m' 5 17]))))))
 (q' ([m' 26 1, m' 4 26]) .ret))))
theorem b2X : cmp Tryz.prog Tryz.f104 = some a4M := by kernel_rfl
theorem b5i (a : List d4) (left : Int) (hpre : 0 ≤ left ∧ left ≤ 1048576) : A0l Tryz.prog 104 [(false, [.sl false [.s [], .i .i64 0, .sl false [.sl false [.i .i64 0, .s []] []] []] (a.map (d4.cells false false))]), (false, [.i .i64 left])] [] (.one (false, [.i .i64 (szR left ((a.length + l3 o5 a) : Nat))])) := by
 refine spec_of2 false false none Tryz.func104 b2X (rvs := [.t 4]) (hΓ := mkCtx_ok (deep := false) (l := [(172, [], a3f)]) ⟨b1g, trivial⟩) (h := ?_)
 intro hb hE
 simp only [go_sem] at hb
 simp only [a4M, x']
 (try refine A2V ?_); simp only [go_sem]; (repeat' first | apply CJ.mk | intro hc); all_goals try ((repeat' first | apply And.intro | intro hs) <;> (try simp only [go_sem, Bool.and_eq_false_iff] at hs) <;> omega)
 ·all_goals ((repeat (simp (disch := omega) only [t8] at *)) <;> (try simp only [szR, szR] at *) <;> (first | omega | (split <;> omega)))
 have hw := t8 (l := left) (n := a.length) (by omega) (by omega) (by omega) (by omega)
 rw [hw] at hc
 refine aw_loop2 false [] [0] [] [] (fun i : {i : Nat // i ≤ a.length ∧ (a.length : Int) + (l3 o5 (a.take i) : Nat) ≤ left} => [(5, slV (.i .i64 i.1)), (1, slV (.i .i64 (left - a.length - (l3 o5 (a.take i.1) : Nat))))]) (fun i => []) (fun i => []) (fun i => a.length - i.1) (⟨0, by simp only [List.take_zero, a1H]; omega⟩) _ rfl ?_ ?_
 ·simp only [go_sem, hw]
  all_goals first | omega | ((repeat' apply And.intro) <;> first | omega | rfl | skip)
 intro S0 hS0 i
 simp only [go_sem, hw] at hS0
 obtain ⟨i, hi, ht⟩ := i
 (try refine A2V ?_); simp only [go_sem, hw, hS0]; (repeat' first | apply CJ.mk | intro hc); all_goals try ((repeat' first | apply And.intro | intro hs) <;> (try simp only [go_sem, Bool.and_eq_false_iff] at hs) <;> omega)
 ·have h1 := j3 o5 (default : d4) (show i < a.length by omega)
  have h2 := u3 o5 a (i + 1)
  all_goals ((repeat (simp (disch := omega) only [t8] at *)) <;> (try simp only [szR, szR] at *) <;> (first | omega | (split <;> omega)))
 ·have h1 := j3 o5 (default : d4) (show i < a.length by omega)
  (refine lpK_n2 (⟨i + 1, by omega, by unfold szR at hc; split at hc <;> omega⟩) _ rfl ?_; simp only [go_sem, hw, hS0]; first | done | ((repeat' apply And.intro) <;> first | omega | (refine w64 ?_ ?_ ?_ <;> omega) | rfl | skip))
  rw [h1]
  unfold szR at hc ⊢
  split at hc <;> omega
 ·have h1 := a3y o5 (show ¬ i < a.length by omega)
  all_goals ((repeat (simp (disch := omega) only [t8] at *)) <;> (try simp only [szR, szR] at *) <;> (first | omega | (split <;> omega)))
 all_goals all_goals ((repeat (simp (disch := omega) only [t8] at *)) <;> (try simp only [szR, szR] at *) <;> (first | omega | (split <;> omega)))
noncomputable def a1P : CT := o6 (fun (x : (List d4) × Int) h => b5i x.1 x.2 h)
@[go_sem] theorem c3B (a : List d4) (x0 : Int) : a1P [(false, [.sl false [.s [], .i .i64 0, .sl false [.sl false [.i .i64 0, .s []] []] []] (a.map (d4.cells false false))]), (false, [.i .i64 x0])] = some (0 ≤ x0 ∧ x0 ≤ 1048576, [], .one (false, [.i .i64 (szR x0 ((a.length + l3 o5 a) : Nat))])) := i6 _ (by rintro ⟨_, _⟩ ⟨_, _⟩ h; simp at h; simp_all) (a, x0)
theorem a9U : OkC Tryz.prog 104 a1P := i7 _
def a6K : ACode := q' ([o' 2 (.box 1 (.t 0)), z' 4 0]) (q' ([f' 5 0 2, l' 6 5, m' 7 1, c' 8 104 [6, 7], m' 1 8]) (.seq (q' ([m' 9 1, o' 10 (.bin .lss (.t 9) (k' 0))]) (.cond (.t
 10) (q' ([o' 4 (.mov (.k (.v false [.c (.i .i64 (-1))])))]) .ret) .skip)) (q' ([m' 11 1, m' 4 11]) .ret)))
theorem b4J : cmp Tryz.prog Tryz.f42 = some a6K := by kernel_rfl
theorem b7q (a : d8) (left : Int) (hpre : 0 ≤ left ∧ left ≤ 1048576) : A0l Tryz.prog 42 [(true, [.sl false [.s [], .i .i64 0, .sl false [.sl false [.i .i64 0, .s []] []] []] (a.Rels.map (d4.cells false false))]), (false, [.i .i64 left])] [] (.one (false, [.i .i64 (szR left (a5x a : Nat))])) := by
 refine spec_of2 false false none Tryz.func42 b4J (rvs := [.t 4]) (hΓ := mkCtx_ok (deep := false) (l := [(104, [], a1P)]) ⟨a9U, trivial⟩) (h := ?_)
 intro hb hE
 simp only [go_sem] at hb
 simp only [a6K, x']
 (try refine A2V ?_); simp only [go_sem]; (repeat' first | apply CJ.mk | intro hc); all_goals try ((repeat' first | apply And.intro | intro hs) <;> (try simp only [go_sem, Bool.and_eq_false_iff] at hs) <;> omega)
 all_goals ((repeat (simp (disch := omega) only [t8] at *)) <;> (try simp only [szR, a5x] at *) <;> (first | omega | (split <;> omega)))
noncomputable def a3h : CT := o6 (fun (x : d8 × Int) h => b7q x.1 x.2 h)
@[go_sem] theorem c4U (x0 : List d4) (x1 : Int) : a3h [(true, [.sl false [.s [], .i .i64 0, .sl false [.sl false [.i .i64 0, .s []] []] []] (x0.map (d4.cells false false))]), (false, [.i .i64 x1])] = some (0 ≤ x1 ∧ x1 ≤ 1048576, [], .one (false, [.i .i64 (szR x1 (a5x (d8.mk x0) : Nat))])) := i6 _ (by rintro ⟨⟨_⟩, _⟩ ⟨⟨_⟩, _⟩ h; simp at h; simp_all) ((d8.mk x0), x1)
theorem b1i : OkC Tryz.prog 42 a3h := i7 _
def a4P : ACode := q' ([o' 2 (.mov (.k (.v false [.nl [.i .i64 0, .s []]])))]) (q' ([m' 5 0, n' 6 5, o' 7 (.mks 2 24 [.i .i64, .s] (.t 6) (.t 6)), m' 3 7]) (.seq (q' ([z' 4 0])
 (.block 0 (.loop (.seq (q' ([m' 8 4, m' 9 0, n' 10 9, r' 11 8 10]) (.cond (.t 11) .skip (.exit 0))) (.seq (.block 1 (g' [m' 14 3, m' 15 4, m' 16 0, m' 17 4,
 i' 18 2 16 17, e' 19 2 18, c' 20 243 [19], i' 21 2 14 15, s' 2 21 20])) (g' [m' 12 4, a' 13 12, m' 4 13])))))) (q' ([m' 22 3, m' 2 22]) .ret)))
theorem b3a : cmp Tryz.prog Tryz.f161 = some a4P := by kernel_rfl
theorem b5l (a : List c9) (hpre : (((a.length + l3 s8 a) : Nat) : Int) ≤ 1048576) : A0l Tryz.prog 161 [(false, [.sl false [.i .i64 0, .s []] (a.map c9.cells)])] [] (.one (false, [.sl true [.i .i64 0, .s []] (a.map c9.cells)])) := by
 refine spec_of2 true false none Tryz.func161 b3a (rvs := [.t 2]) (hΓ := mkCtx_ok (deep := true) (l := [(243, [], a0D)]) ⟨a3X, trivial⟩) (h := ?_)
 intro hb hE
 simp only [go_sem] at hb
 simp only [a4P, x']
 (try refine A2V ?_); simp only [go_sem, a2z]; (repeat' first | apply CJ.mk | intro hc); all_goals try ((repeat' first | apply And.intro | intro hs) <;> (try simp only [go_sem, Bool.and_eq_false_iff] at hs) <;> omega)
 refine aw_loop2 true [] [0, 3] [] [] (fun i : {p : Nat × (List c9) // p.1 ≤ a.length ∧ p.2.length = a.length ∧ p.2.take p.1 = a.take p.1} => [(4, slV (.i .i64 i.1.1))]) (fun i => []) (fun i => [(896, [.i .i64 0, .s []], i.1.2.map c9.cells)]) (fun i => a.length - i.1.1) (⟨(0, List.replicate a.length default), by simp⟩) _ rfl ?_ ?_
 ·simp only [go_sem, a2z]
  all_goals first | omega | ((repeat' apply And.intro) <;> first | omega | rfl | skip)
 intro S0 hS0 i
 simp only [go_sem, a2z] at hS0
 obtain ⟨⟨i, L⟩, hi, hl, ht⟩ := i
 simp only at hi hl ht
 (try refine A2V ?_); simp only [go_sem, a2z, hS0]; (repeat' first | apply CJ.mk | intro hc); all_goals try ((repeat' first | apply And.intro | intro hs) <;> (try simp only [go_sem, Bool.and_eq_false_iff] at hs) <;> omega)
 ·(refine lpK_n2 (⟨(i + 1, L.set i (a.getD i default)), by simp only; omega, by simp [hl], u4 hl ht (by omega)⟩) _ rfl ?_; simp only [go_sem, a2z, hS0]; first | done | ((repeat' apply And.intro) <;> first | omega | (refine w64 ?_ ?_ ?_ <;> omega) | rfl | skip))
 ·obtain rfl := n0 hl ht (by omega)
  rfl
 all_goals trace_state
noncomputable def a1S : CT := o6 (fun (x : (List c9)) h => b5l x h)
@[go_sem] theorem c3E (a : List c9) : a1S [(false, [.sl false [.i .i64 0, .s []] (a.map c9.cells)])] = some ((((a.length + l3 s8 a) : Nat) : Int) ≤ 1048576, [], .one (false, [.sl true [.i .i64 0, .s []] (a.map c9.cells)])) := i6 _ (by intro x y h; simp at h; simp_all) a
theorem a9X : OkC Tryz.prog 161 a1S := i7 _
def a9v : ACode := q' ([o' 1 (.box 1 (.t 0)), w' 2 [.sl [.i .i64 0, .s []]]]) (q' ([w' 3 [.sl [.i .i64 0, .s []]]]) (q' ([f' 4 0 1, l' 5 4, c' 6 161 [5], f' 7 0 3, s' 1 7 6]) (q'
 ([e' 8 1 3, s' 1 2 8]) .ret)))
theorem b8u : cmp Tryz.prog Tryz.f94 = some a9v := by kernel_rfl
theorem c0P (a : d6) (hpre : (w4 a : Int) ≤ 1048576) : A0l Tryz.prog 94 [(true, [.sl false [.i .i64 0, .s []] (a.V.map c9.cells)])] [] (.one (true, [.sl true [.i .i64 0, .s []] (a.V.map c9.cells)])) := by
 refine spec_of2 true false none Tryz.func94 b8u (rvs := [.c 2 true 1]) (hΓ := mkCtx_ok (deep := true) (l := [(161, [], a1S)]) ⟨a9X, trivial⟩) (h := ?_)
 intro hb hE
 simp only [go_sem] at hb
 simp only [a9v, x']
 (try refine A2V ?_); simp only [go_sem]; (repeat' first | apply CJ.mk | intro hc); all_goals try ((repeat' first | apply And.intro | intro hs) <;> (try simp only [go_sem, Bool.and_eq_false_iff] at hs) <;> omega)
 all_goals (simp only [w4] at *; omega)
noncomputable def a6a : CT := o6 (fun (x : d6) h => c0P x h)
@[go_sem] theorem c7I (x0 : List c9) : a6a [(true, [.sl false [.i .i64 0, .s []] (x0.map c9.cells)])] = some ((w4 (d6.mk x0) : Int) ≤ 1048576, [], .one (true, [.sl true [.i .i64 0, .s []] (((d6.mk x0).V).map c9.cells)])) := i6 _ (by rintro ⟨_⟩ ⟨_⟩ h; simp at h; simp_all) (d6.mk x0)
theorem b4k : OkC Tryz.prog 94 a6a := i7 _
def a7Q : ACode := q' ([o' 2 (.mov (.k (.v false [.nl [.sl false [.i .i64 0, .s []] []]])))]) (q' ([m' 5 0, n' 6 5, o' 7 (.mks 1 24 [.sl [.i .i64 0, .s []]] (.t 6) (.t 6)), m' 3
 7]) (.seq (q' ([z' 4 0]) (.block 0 (.loop (.seq (q' ([m' 8 4, m' 9 0, n' 10 9, r' 11 8 10]) (.cond (.t 11) .skip (.exit 0))) (.seq (.block 1 (g' [m' 14 3, m'
 15 4, m' 16 0, m' 17 4, i' 18 1 16 17, e' 19 1 18, c' 20 94 [19], i' 21 1 14 15, s' 1 21 20])) (g' [m' 12 4, a' 13 12, m' 4 13])))))) (q' ([m' 22 3, m' 2 22])
 .ret)))
theorem b6F : cmp Tryz.prog Tryz.f318 = some a7Q := by kernel_rfl
theorem b9c (a : List d6) (hpre : (((a.length + l3 w4 a) : Nat) : Int) ≤ 1048576) : A0l Tryz.prog 318 [(false, [.sl false [.sl false [.i .i64 0, .s []] []] (a.map (d6.cells false false))])] [] (.one (false, [.sl true [.sl true [.i .i64 0, .s []] []] (a.map (d6.cells true true))])) := by
 refine spec_of2 true false none Tryz.func318 b6F (rvs := [.t 2]) (hΓ := mkCtx_ok (deep := true) (l := [(94, [], a6a)]) ⟨b4k, trivial⟩) (h := ?_)
 intro hb hE
 simp only [go_sem] at hb
 simp only [a7Q, x']
 (try refine A2V ?_); simp only [go_sem, a7o]; (repeat' first | apply CJ.mk | intro hc); all_goals try ((repeat' first | apply And.intro | intro hs) <;> (try simp only [go_sem, Bool.and_eq_false_iff] at hs) <;> omega)
 refine aw_loop2 true [] [0, 3] [] [] (fun i : {p : Nat × (List d6) // p.1 ≤ a.length ∧ p.2.length = a.length ∧ p.2.take p.1 = a.take p.1} => [(4, slV (.i .i64 i.1.1))]) (fun i => []) (fun i => [(896, [.sl true [.i .i64 0, .s []] []], i.1.2.map (d6.cells true true))]) (fun i => a.length - i.1.1) (⟨(0, List.replicate a.length default), by simp⟩) _ rfl ?_ ?_
 ·simp only [go_sem, a7o]
  all_goals first | omega | ((repeat' apply And.intro) <;> first | omega | rfl | skip)
 intro S0 hS0 i
 simp only [go_sem, a7o] at hS0
 obtain ⟨⟨i, L⟩, hi, hl, ht⟩ := i
 simp only at hi hl ht
 have hg := a8O w4 a i default rfl
 (try refine A2V ?_); simp only [go_sem, a7o, hS0]; (repeat' first | apply CJ.mk | intro hc); all_goals try ((repeat' first | apply And.intro | intro hs) <;> (try simp only [go_sem, Bool.and_eq_false_iff] at hs) <;> omega)
 ·(refine lpK_n2 (⟨(i + 1, L.set i (a.getD i default)), by simp only; omega, by simp [hl], u4 hl ht (by omega)⟩) _ rfl ?_; simp only [go_sem, a7o, hS0]; first | done | ((repeat' apply And.intro) <;> first | omega | (refine w64 ?_ ?_ ?_ <;> omega) | rfl | skip))
 ·obtain rfl := n0 hl ht (by omega)
  rfl
 all_goals trace_state
noncomputable def a4v : CT := o6 (fun (x : (List d6)) h => b9c x h)
@[go_sem] theorem c6C (a : List d6) : a4v [(false, [.sl false [.sl false [.i .i64 0, .s []] []] (a.map (d6.cells false false))])] = some ((((a.length + l3 w4 a) : Nat) : Int) ≤ 1048576, [], .one (false, [.sl true [.sl true [.i .i64 0, .s []] []] (a.map (d6.cells true true))])) := i6 _ (by intro x y h; simp at h; simp_all) a
theorem b2B : OkC Tryz.prog 318 a4v := i7 _
def a9u : ACode := q' ([o' 1 (.box 2 (.t 0)), w' 2 [.i .i64, .sl [.sl false [.i .i64 0, .s []] []]]]) (q' ([w' 3 [.i .i64, .sl [.sl false [.i .i64 0, .s []] []]]]) (q' ([f' 4 0 1,
 l' 5 4, f' 6 0 3, s' 1 6 5]) (q' ([f' 7 1 1, l' 8 7, c' 9 318 [8], f' 10 1 3, s' 1 10 9]) (q' ([e' 11 2 3, s' 2 2 11]) .ret))))
theorem b8t : cmp Tryz.prog Tryz.f259 = some a9u := by kernel_rfl
theorem c0O (a : d9) (hpre : (b0B a : Int) ≤ 1048576) : A0l Tryz.prog 259 [(true, [.i .i64 a.Arity, .sl false [.sl false [.i .i64 0, .s []] []] (a.Rows.map (d6.cells false false))])] [] (.one (true, [.i .i64 a.Arity, .sl true [.sl true [.i .i64 0, .s []] []] (a.Rows.map (d6.cells true true))])) := by
 refine spec_of2 true false none Tryz.func259 b8t (rvs := [.c 2 true 2]) (hΓ := mkCtx_ok (deep := true) (l := [(318, [], a4v)]) ⟨b2B, trivial⟩) (h := ?_)
 intro hb hE
 simp only [go_sem] at hb
 simp only [a9u, x']
 (try refine A2V ?_); simp only [go_sem]; (repeat' first | apply CJ.mk | intro hc); all_goals try ((repeat' first | apply And.intro | intro hs) <;> (try simp only [go_sem, Bool.and_eq_false_iff] at hs) <;> omega)
 all_goals (simp only [b0B] at *; omega)
noncomputable def a5Z : CT := o6 (fun (x : d9) h => c0O x h)
@[go_sem] theorem c7H (x0 : Int) (x1 : List d6) : a5Z [(true, [.i .i64 x0, .sl false [.sl false [.i .i64 0, .s []] []] (x1.map (d6.cells false false))])] = some ((b0B (d9.mk x0 x1) : Int) ≤ 1048576, [], .one (true, [.i .i64 ((d9.mk x0 x1).Arity), .sl true [.sl true [.i .i64 0, .s []] []] (((d9.mk x0 x1).Rows).map (d6.cells true true))])) := i6 _ (by rintro ⟨_, _⟩ ⟨_, _⟩ h; simp at h; simp_all) (d9.mk x0 x1)
theorem b4j : OkC Tryz.prog 259 a5Z := i7 _
def a6O : ACode := q' ([o' 1 (.box 3 (.t 0)), w' 2 [.s, .i .i64, .sl [.sl false [.i .i64 0, .s []] []]]]) (q' ([w' 3 [.s, .i .i64, .sl [.sl false [.i .i64 0, .s []] []]]]) (q'
 ([f' 4 0 1, l' 5 4, f' 6 0 3, s' 1 6 5]) (q' ([f' 7 1 1, e' 8 2 7, c' 9 259 [8], f' 10 1 3, s' 2 10 9]) (q' ([e' 11 3 3, s' 3 2 11]) .ret))))
theorem b4N : cmp Tryz.prog Tryz.f175 = some a6O := by kernel_rfl
theorem b7u (a : d4) (hpre : (o5 a : Int) ≤ 1048576) : A0l Tryz.prog 175 [(true, [.s a.Name, .i .i64 a.Rel.Arity, .sl false [.sl false [.i .i64 0, .s []] []] (a.Rel.Rows.map (d6.cells false false))])] [] (.one (true, [.s a.Name, .i .i64 a.Rel.Arity, .sl true [.sl true [.i .i64 0, .s []] []] (a.Rel.Rows.map (d6.cells true true))])) := by
 refine spec_of2 true false none Tryz.func175 b4N (rvs := [.c 2 true 3]) (hΓ := mkCtx_ok (deep := true) (l := [(259, [], a5Z)]) ⟨b4j, trivial⟩) (h := ?_)
 intro hb hE
 simp only [go_sem] at hb
 simp only [a6O, x']
 (try refine A2V ?_); simp only [go_sem]; (repeat' first | apply CJ.mk | intro hc); all_goals try ((repeat' first | apply And.intro | intro hs) <;> (try simp only [go_sem, Bool.and_eq_false_iff] at hs) <;> omega)
 all_goals (simp only [o5] at *; omega)
noncomputable def a3k : CT := o6 (fun (x : d4) h => b7u x h)
@[go_sem] theorem c4Y (x0 : List UInt8) (x1 : Int) (x2 : List d6) : a3k [(true, [.s x0, .i .i64 x1, .sl false [.sl false [.i .i64 0, .s []] []] (x2.map (d6.cells false false))])] = some ((o5 (d4.mk x0 (d9.mk x1 x2)) : Int) ≤ 1048576, [], .one (true, [.s ((d4.mk x0 (d9.mk x1 x2)).Name), .i .i64 (((d4.mk x0 (d9.mk x1 x2)).Rel).Arity), .sl true [.sl true [.i .i64 0, .s []] []] ((((d4.mk x0 (d9.mk x1 x2)).Rel).Rows).map (d6.cells true true))])) := i6 _ (by rintro ⟨_, ⟨_, _⟩⟩ ⟨_, ⟨_, _⟩⟩ h; simp at h; simp_all) (d4.mk x0 (d9.mk x1 x2))
theorem b1l : OkC Tryz.prog 175 a3k := i7 _
def a4O : ACode := q' ([o' 2 (.mov (.k (.v false [.nl [.s [], .i .i64 0, .sl false [.sl false [.i .i64 0, .s []] []] []]])))]) (q' ([m' 5 0, n' 6 5, o' 7 (.mks 3 48 [.s, .i .i64,
 .sl [.sl false [.i .i64 0, .s []] []]] (.t 6) (.t 6)), m' 3 7]) (.seq (q' ([z' 4 0]) (.block 0 (.loop (.seq (q' ([m' 8 4, m' 9 0, n' 10 9, r' 11 8 10]) (.cond
 (.t 11) .skip (.exit 0))) (.seq (.block 1 (g' [m' 14 3, m' 15 4, m' 16 0, m' 17 4, i' 18 3 16 17, e' 19 3 18, c' 20 175 [19], i' 21 3 14 15, s' 3 21 20])) (g'
 [m' 12 4, a' 13 12, m' 4 13])))))) (q' ([m' 22 3, m' 2 22]) .ret)))
theorem b2Z : cmp Tryz.prog Tryz.f107 = some a4O := by kernel_rfl
theorem b5k (a : List d4) (hpre : (((a.length + l3 o5 a) : Nat) : Int) ≤ 1048576) : A0l Tryz.prog 107 [(false, [.sl false [.s [], .i .i64 0, .sl false [.sl false [.i .i64 0, .s []] []] []] (a.map (d4.cells false false))])] [] (.one (false, [.sl true [.s [], .i .i64 0, .sl true [.sl true [.i .i64 0, .s []] []] []] (a.map (d4.cells true true))])) := by
 refine spec_of2 true false none Tryz.func107 b2Z (rvs := [.t 2]) (hΓ := mkCtx_ok (deep := true) (l := [(175, [], a3k)]) ⟨b1l, trivial⟩) (h := ?_)
 intro hb hE
 simp only [go_sem] at hb
 simp only [a4O, x']
 (try refine A2V ?_); simp only [go_sem, a2y]; (repeat' first | apply CJ.mk | intro hc); all_goals try ((repeat' first | apply And.intro | intro hs) <;> (try simp only [go_sem, Bool.and_eq_false_iff] at hs) <;> omega)
 refine aw_loop2 true [] [0, 3] [] [] (fun i : {p : Nat × (List d4) // p.1 ≤ a.length ∧ p.2.length = a.length ∧ p.2.take p.1 = a.take p.1} => [(4, slV (.i .i64 i.1.1))]) (fun i => []) (fun i => [(896, [.s [], .i .i64 0, .sl true [.sl true [.i .i64 0, .s []] []] []], i.1.2.map (d4.cells true true))]) (fun i => a.length - i.1.1) (⟨(0, List.replicate a.length default), by simp⟩) _ rfl ?_ ?_
 ·simp only [go_sem, a2y]
  all_goals first | omega | ((repeat' apply And.intro) <;> first | omega | rfl | skip)
 intro S0 hS0 i
 simp only [go_sem, a2y] at hS0
 obtain ⟨⟨i, L⟩, hi, hl, ht⟩ := i
 simp only at hi hl ht
 have hg := a8O o5 a i default rfl
 (try refine A2V ?_); simp only [go_sem, a2y, hS0]; (repeat' first | apply CJ.mk | intro hc); all_goals try ((repeat' first | apply And.intro | intro hs) <;> (try simp only [go_sem, Bool.and_eq_false_iff] at hs) <;> omega)
 ·(refine lpK_n2 (⟨(i + 1, L.set i (a.getD i default)), by simp only; omega, by simp [hl], u4 hl ht (by omega)⟩) _ rfl ?_; simp only [go_sem, a2y, hS0]; first | done | ((repeat' apply And.intro) <;> first | omega | (refine w64 ?_ ?_ ?_ <;> omega) | rfl | skip))
 ·obtain rfl := n0 hl ht (by omega)
  rfl
 all_goals trace_state
noncomputable def a1R : CT := o6 (fun (x : (List d4)) h => b5k x h)
@[go_sem] theorem c3D (a : List d4) : a1R [(false, [.sl false [.s [], .i .i64 0, .sl false [.sl false [.i .i64 0, .s []] []] []] (a.map (d4.cells false false))])] = some ((((a.length + l3 o5 a) : Nat) : Int) ≤ 1048576, [], .one (false, [.sl true [.s [], .i .i64 0, .sl true [.sl true [.i .i64 0, .s []] []] []] (a.map (d4.cells true true))])) := i6 _ (by intro x y h; simp at h; simp_all) a
theorem a9W : OkC Tryz.prog 107 a1R := i7 _
def a6Q : ACode := q' ([o' 1 (.box 1 (.t 0)), w' 2 [.sl [.s [], .i .i64 0, .sl false [.sl false [.i .i64 0, .s []] []] []]]]) (q' ([w' 3 [.sl [.s [], .i .i64 0, .sl false [.sl
 false [.i .i64 0, .s []] []] []]]]) (q' ([f' 4 0 1, l' 5 4, c' 6 107 [5], f' 7 0 3, s' 1 7 6]) (q' ([e' 8 1 3, s' 1 2 8]) .ret)))
theorem b4P : cmp Tryz.prog Tryz.f44 = some a6Q := by kernel_rfl
theorem b7w (a : d8) (hpre : (a5x a : Int) ≤ 1048576) : A0l Tryz.prog 44 [(true, [.sl false [.s [], .i .i64 0, .sl false [.sl false [.i .i64 0, .s []] []] []] (a.Rels.map (d4.cells false false))])] [] (.one (true, [.sl true [.s [], .i .i64 0, .sl true [.sl true [.i .i64 0, .s []] []] []] (a.Rels.map (d4.cells true true))])) := by
 refine spec_of2 true false none Tryz.func44 b4P (rvs := [.c 2 true 1]) (hΓ := mkCtx_ok (deep := true) (l := [(107, [], a1R)]) ⟨a9W, trivial⟩) (h := ?_)
 intro hb hE
 simp only [go_sem] at hb
 simp only [a6Q, x']
 (try refine A2V ?_); simp only [go_sem]; (repeat' first | apply CJ.mk | intro hc); all_goals try ((repeat' first | apply And.intro | intro hs) <;> (try simp only [go_sem, Bool.and_eq_false_iff] at hs) <;> omega)
 all_goals (simp only [a5x] at *; omega)
noncomputable def a3m : CT := o6 (fun (x : d8) h => b7w x h)
@[go_sem] theorem c5a (x0 : List d4) : a3m [(true, [.sl false [.s [], .i .i64 0, .sl false [.sl false [.i .i64 0, .s []] []] []] (x0.map (d4.cells false false))])] = some ((a5x (d8.mk x0) : Int) ≤ 1048576, [], .one (true, [.sl true [.s [], .i .i64 0, .sl true [.sl true [.i .i64 0, .s []] []] []] (((d8.mk x0).Rels).map (d4.cells true true))])) := i6 _ (by rintro ⟨_⟩ ⟨_⟩ h; simp at h; simp_all) (d8.mk x0)
theorem b1n : OkC Tryz.prog 44 a3m := i7 _
def a7E : ACode := q' ([b' 4 false]) (.seq (q' ([m' 6 0, n' 7 6, m' 8 1, n' 9 8, o' 10 (.bin .neq (.t 7) (.t 9))]) (.cond (.t 10) (q' ([b' 4 false]) .ret) .skip)) (.seq (q' ([z' 5
 0]) (.block 0 (.loop (.seq (q' ([m' 11 5, m' 12 0, n' 13 12, r' 14 11 13]) (.cond (.t 14) .skip (.exit 0))) (.seq (.block 1 (.seq (.reg true [m' 17 0, m' 18
 5, i' 19 1 17 18, e' 20 1 19, m' 21 1, m' 22 5, i' 23 1 21 22, e' 24 1 23, c' 25 96 [20, 24], o' 26 (.not (.t 25))]) (.cond (.t 26) (q' ([b' 4 false]) .ret)
 .skip))) (g' [m' 15 5, a' 16 15, m' 5 16])))))) (q' ([b' 4 true]) .ret)))
theorem b6t : cmp Tryz.prog Tryz.f130 = some a7E := by kernel_rfl
theorem b8Q (a : List d6) (b : List d6) : A0l Tryz.prog 130 [(false, [.sl false [.sl false [.i .i64 0, .s []] []] (a.map (d6.cells false false))]), (false, [.sl false [.sl false [.i .i64 0, .s []] []] (b.map (d6.cells false false))])] [] (.one (false, [.b (decide (a = b))])) := by
 refine spec_of2 false false none Tryz.func130 b6t (rvs := [.t 4]) (hΓ := mkCtx_ok (deep := false) (l := [(96, [], a5U)]) ⟨b4e, trivial⟩) (h := ?_)
 intro hb hE
 simp only [go_sem] at hb
 simp only [a7E, x']
 (try refine A2V ?_); simp only [go_sem]; (repeat' first | apply CJ.mk | intro hc); all_goals try ((repeat' first | apply And.intro | intro hs) <;> (try simp only [go_sem, Bool.and_eq_false_iff] at hs) <;> omega)
 ·symm
  rw [decide_eq_false_iff_not]
  rintro rfl
  simp at hc
 have hl : a.length = b.length := by simpa [Int.ofNat_inj] using hc
 refine aw_loop2 false [] [0, 1] [] [] (fun i : {i : Nat // i ≤ a.length ∧ a.take i = b.take i} => [(5, slV (.i .i64 i.1))]) (fun i => []) (fun i => []) (fun i => a.length - i.1) (⟨0, by simp⟩) _ rfl ?_ ?_
 ·simp only [go_sem]
  all_goals first | omega | ((repeat' apply And.intro) <;> first | omega | rfl | skip)
 intro S0 hS0 i
 simp only [go_sem] at hS0
 obtain ⟨i, hi, ht⟩ := i
 (try refine A2V ?_); simp only [go_sem, hS0]; (repeat' first | apply CJ.mk | intro hc); all_goals try ((repeat' first | apply And.intro | intro hs) <;> (try simp only [go_sem, Bool.and_eq_false_iff] at hs) <;> omega)
 ·exact (decide_eq_false (a0m default (i := i) (by simpa using hc))).symm
 ·(refine lpK_n2 (⟨i + 1, by omega, v6 ht (by omega) (by omega) (d := default) (by simpa using hc)⟩) _ rfl ?_; simp only [go_sem, hS0]; first | done | ((repeat' apply And.intro) <;> first | omega | (refine w64 ?_ ?_ ?_ <;> omega) | rfl | skip))
 ·exact (decide_eq_true (n0 hl ht (by omega))).symm
 all_goals trace_state
noncomputable def a4n : CT := i5 (fun (x : (List d6) × (List d6)) => b8Q x.1 x.2)
@[go_sem] theorem c6q (a b : List d6) : a4n [(false, [.sl false [.sl false [.i .i64 0, .s []] []] (a.map (d6.cells false false))]), (false, [.sl false [.sl false [.i .i64 0, .s []] []] (b.map (d6.cells false false))])] = some (True, [], .one (false, [.b (decide (a = b))])) := f7 _ (by rintro ⟨_, _⟩ ⟨_, _⟩ h; simp at h; simp_all) (a, b)
theorem b2t : OkC Tryz.prog 130 a4n := f8 _
def a9o : ACode := q' ([o' 2 (.box 2 (.t 0)), o' 3 (.box 2 (.t 1)), b' 4 false]) (.seq (q' ([f' 5 0 2, l' 6 5, f' 7 0 3, l' 8 7, o' 9 (.bin .neq (.t 6) (.t 8))]) (.cond (.t 9) (q'
 ([b' 4 false]) .ret) .skip)) (.seq (q' ([f' 10 1 2, l' 11 10, f' 12 1 3, l' 13 12, c' 14 130 [11, 13], o' 15 (.not (.t 14))]) (.cond (.t 15) (q' ([b' 4
 false]) .ret) .skip)) (q' ([b' 4 true]) .ret)))
theorem b8n : cmp Tryz.prog Tryz.f57 = some a9o := by kernel_rfl
theorem c0I (a : d9) (b : d9) : A0l Tryz.prog 57 [(true, [.i .i64 a.Arity, .sl false [.sl false [.i .i64 0, .s []] []] (a.Rows.map (d6.cells false false))]), (true, [.i .i64 b.Arity, .sl false [.sl false [.i .i64 0, .s []] []] (b.Rows.map (d6.cells false false))])] [] (.one (false, [.b (decide (a = b))])) := by
 refine spec_of2 false false none Tryz.func57 b8n (rvs := [.t 4]) (hΓ := mkCtx_ok (deep := false) (l := [(130, [], a4n)]) ⟨b2t, trivial⟩) (h := ?_)
 intro hb hE
 simp only [go_sem] at hb
 simp only [a9o, x']
 (try refine A2V ?_); simp only [go_sem]; (repeat' first | apply CJ.mk | intro hc); all_goals try ((repeat' first | apply And.intro | intro hs) <;> (try simp only [go_sem, Bool.and_eq_false_iff] at hs) <;> omega)
 all_goals (cases a; cases b; simp_all)
noncomputable def a5T : CT := i5 (fun (x : d9 × d9) => c0I x.1 x.2)
@[go_sem] theorem c7B (x0 : Int) (x1 : List d6) (x2 : Int) (x3 : List d6) : a5T [(true, [.i .i64 x0, .sl false [.sl false [.i .i64 0, .s []] []] (x1.map (d6.cells false false))]), (true, [.i .i64 x2, .sl false [.sl false [.i .i64 0, .s []] []] (x3.map (d6.cells false false))])] = some (True, [], .one (false, [.b (decide ((d9.mk x0 x1) = (d9.mk x2 x3)))])) := f7 _ (by rintro ⟨⟨_, _⟩, ⟨_, _⟩⟩ ⟨⟨_, _⟩, ⟨_, _⟩⟩ h; simp at h; simp_all) ((d9.mk x0 x1), (d9.mk x2 x3))
theorem b4d : OkC Tryz.prog 57 a5T := f8 _
def a6C : ACode := q' ([o' 2 (.box 3 (.t 0)), o' 3 (.box 3 (.t 1)), b' 4 false]) (.seq (q' ([f' 5 0 2, l' 6 5, f' 7 0 3, l' 8 7, o' 9 (.bin .neq (.t 6) (.t 8))]) (.cond (.t 9) (q'
 ([b' 4 false]) .ret) .skip)) (.seq (q' ([f' 10 1 2, e' 11 2 10, f' 12 1 3, e' 13 2 12, c' 14 57 [11, 13], o' 15 (.not (.t 14))]) (.cond (.t 15) (q' ([b' 4
 false]) .ret) .skip)) (q' ([b' 4 true]) .ret)))
theorem b4B : cmp Tryz.prog Tryz.f143 = some a6C := by kernel_rfl
theorem b7i (a : d4) (b : d4) : A0l Tryz.prog 143 [(true, [.s a.Name, .i .i64 a.Rel.Arity, .sl false [.sl false [.i .i64 0, .s []] []] (a.Rel.Rows.map (d6.cells false false))]), (true, [.s b.Name, .i .i64 b.Rel.Arity, .sl false [.sl false [.i .i64 0, .s []] []] (b.Rel.Rows.map (d6.cells false false))])] [] (.one (false, [.b (decide (a = b))])) := by
 refine spec_of2 false false none Tryz.func143 b4B (rvs := [.t 4]) (hΓ := mkCtx_ok (deep := false) (l := [(57, [], a5T)]) ⟨b4d, trivial⟩) (h := ?_)
 intro hb hE
 simp only [go_sem] at hb
 simp only [a6C, x']
 (try refine A2V ?_); simp only [go_sem]; (repeat' first | apply CJ.mk | intro hc); all_goals try ((repeat' first | apply And.intro | intro hs) <;> (try simp only [go_sem, Bool.and_eq_false_iff] at hs) <;> omega)
 all_goals (cases a; cases b; simp_all)
noncomputable def a3a : CT := i5 (fun (x : d4 × d4) => b7i x.1 x.2)
@[go_sem] theorem c4M (x0 : List UInt8) (x1 : Int) (x2 : List d6) (x3 : List UInt8) (x4 : Int) (x5 : List d6) : a3a [(true, [.s x0, .i .i64 x1, .sl false [.sl false [.i .i64 0, .s []] []] (x2.map (d6.cells false false))]), (true, [.s x3, .i .i64 x4, .sl false [.sl false [.i .i64 0, .s []] []] (x5.map (d6.cells false false))])] = some (True, [], .one (false, [.b (decide ((d4.mk x0 (d9.mk x1 x2)) = (d4.mk x3 (d9.mk x4 x5))))])) := f7 _ (by rintro ⟨⟨_, ⟨_, _⟩⟩, ⟨_, ⟨_, _⟩⟩⟩ ⟨⟨_, ⟨_, _⟩⟩, ⟨_, ⟨_, _⟩⟩⟩ h; simp at h; simp_all) ((d4.mk x0 (d9.mk x1 x2)), (d4.mk x3 (d9.mk x4 x5)))
theorem b1b : OkC Tryz.prog 143 a3a := f8 _
def a4K : ACode := q' ([b' 4 false]) (.seq (q' ([m' 6 0, n' 7 6, m' 8 1, n' 9 8, o' 10 (.bin .neq (.t 7) (.t 9))]) (.cond (.t 10) (q' ([b' 4 false]) .ret) .skip)) (.seq (q' ([z' 5
 0]) (.block 0 (.loop (.seq (q' ([m' 11 5, m' 12 0, n' 13 12, r' 14 11 13]) (.cond (.t 14) .skip (.exit 0))) (.seq (.block 1 (.seq (.reg true [m' 17 0, m' 18
 5, i' 19 3 17 18, e' 20 3 19, m' 21 1, m' 22 5, i' 23 3 21 22, e' 24 3 23, c' 25 143 [20, 24], o' 26 (.not (.t 25))]) (.cond (.t 26) (q' ([b' 4 false]) .ret)
 .skip))) (g' [m' 15 5, a' 16 15, m' 5 16])))))) (q' ([b' 4 true]) .ret)))
theorem b2V : cmp Tryz.prog Tryz.f68 = some a4K := by kernel_rfl
theorem b5g (a : List d4) (b : List d4) : A0l Tryz.prog 68 [(false, [.sl false [.s [], .i .i64 0, .sl false [.sl false [.i .i64 0, .s []] []] []] (a.map (d4.cells false false))]), (false, [.sl false [.s [], .i .i64 0, .sl false [.sl false [.i .i64 0, .s []] []] []] (b.map (d4.cells false false))])] [] (.one (false, [.b (decide (a = b))])) := by
 refine spec_of2 false false none Tryz.func68 b2V (rvs := [.t 4]) (hΓ := mkCtx_ok (deep := false) (l := [(143, [], a3a)]) ⟨b1b, trivial⟩) (h := ?_)
 intro hb hE
 simp only [go_sem] at hb
 simp only [a4K, x']
 (try refine A2V ?_); simp only [go_sem]; (repeat' first | apply CJ.mk | intro hc); all_goals try ((repeat' first | apply And.intro | intro hs) <;> (try simp only [go_sem, Bool.and_eq_false_iff] at hs) <;> omega)
 ·symm
  rw [decide_eq_false_iff_not]
  rintro rfl
  simp at hc
 have hl : a.length = b.length := by simpa [Int.ofNat_inj] using hc
 refine aw_loop2 false [] [0, 1] [] [] (fun i : {i : Nat // i ≤ a.length ∧ a.take i = b.take i} => [(5, slV (.i .i64 i.1))]) (fun i => []) (fun i => []) (fun i => a.length - i.1) (⟨0, by simp⟩) _ rfl ?_ ?_
 ·simp only [go_sem]
  all_goals first | omega | ((repeat' apply And.intro) <;> first | omega | rfl | skip)
 intro S0 hS0 i
 simp only [go_sem] at hS0
 obtain ⟨i, hi, ht⟩ := i
 (try refine A2V ?_); simp only [go_sem, hS0]; (repeat' first | apply CJ.mk | intro hc); all_goals try ((repeat' first | apply And.intro | intro hs) <;> (try simp only [go_sem, Bool.and_eq_false_iff] at hs) <;> omega)
 ·exact (decide_eq_false (a0m default (i := i) (by simpa using hc))).symm
 ·(refine lpK_n2 (⟨i + 1, by omega, v6 ht (by omega) (by omega) (d := default) (by simpa using hc)⟩) _ rfl ?_; simp only [go_sem, hS0]; first | done | ((repeat' apply And.intro) <;> first | omega | (refine w64 ?_ ?_ ?_ <;> omega) | rfl | skip))
 ·exact (decide_eq_true (n0 hl ht (by omega))).symm
 all_goals trace_state
noncomputable def a1N : CT := i5 (fun (x : (List d4) × (List d4)) => b5g x.1 x.2)
@[go_sem] theorem c3z (a b : List d4) : a1N [(false, [.sl false [.s [], .i .i64 0, .sl false [.sl false [.i .i64 0, .s []] []] []] (a.map (d4.cells false false))]), (false, [.sl false [.s [], .i .i64 0, .sl false [.sl false [.i .i64 0, .s []] []] []] (b.map (d4.cells false false))])] = some (True, [], .one (false, [.b (decide (a = b))])) := f7 _ (by rintro ⟨_, _⟩ ⟨_, _⟩ h; simp at h; simp_all) (a, b)
theorem a9S : OkC Tryz.prog 68 a1N := f8 _
def a6E : ACode := q' ([o' 2 (.box 1 (.t 0)), o' 3 (.box 1 (.t 1)), b' 4 false]) (.seq (q' ([f' 5 0 2, l' 6 5, f' 7 0 3, l' 8 7, c' 9 68 [6, 8], o' 10 (.not (.t 9))]) (.cond (.t
 10) (q' ([b' 4 false]) .ret) .skip)) (q' ([b' 4 true]) .ret))
theorem b4D : cmp Tryz.prog Tryz.f16 = some a6E := by kernel_rfl
theorem b7k (a : d8) (b : d8) : A0l Tryz.prog 16 [(true, [.sl false [.s [], .i .i64 0, .sl false [.sl false [.i .i64 0, .s []] []] []] (a.Rels.map (d4.cells false false))]), (true, [.sl false [.s [], .i .i64 0, .sl false [.sl false [.i .i64 0, .s []] []] []] (b.Rels.map (d4.cells false false))])] [] (.one (false, [.b (decide (a = b))])) := by
 refine spec_of2 false false none Tryz.func16 b4D (rvs := [.t 4]) (hΓ := mkCtx_ok (deep := false) (l := [(68, [], a1N)]) ⟨a9S, trivial⟩) (h := ?_)
 intro hb hE
 simp only [go_sem] at hb
 simp only [a6E, x']
 (try refine A2V ?_); simp only [go_sem]; (repeat' first | apply CJ.mk | intro hc); all_goals try ((repeat' first | apply And.intro | intro hs) <;> (try simp only [go_sem, Bool.and_eq_false_iff] at hs) <;> omega)
 all_goals (cases a; cases b; simp_all)
noncomputable def a3c : CT := i5 (fun (x : d8 × d8) => b7k x.1 x.2)
@[go_sem] theorem c4O (x0 x1 : List d4) : a3c [(true, [.sl false [.s [], .i .i64 0, .sl false [.sl false [.i .i64 0, .s []] []] []] (x0.map (d4.cells false false))]), (true, [.sl false [.s [], .i .i64 0, .sl false [.sl false [.i .i64 0, .s []] []] []] (x1.map (d4.cells false false))])] = some (True, [], .one (false, [.b (decide ((d8.mk x0) = (d8.mk x1)))])) := f7 _ (by rintro ⟨⟨_⟩, ⟨_⟩⟩ ⟨⟨_⟩, ⟨_⟩⟩ h; simp at h; simp_all) ((d8.mk x0), (d8.mk x1))
theorem b1d : OkC Tryz.prog 16 a3c := f8 _
end Go.Aw
