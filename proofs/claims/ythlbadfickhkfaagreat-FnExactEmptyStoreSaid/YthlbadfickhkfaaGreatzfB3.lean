/- Programs: sizes, copies, equalities. No condition. -/
import Derived.Test.YthlbadfickhkfaaGreatzfB2
namespace Go.Aw
open Go.Proofs
attribute [local irreducible] aft blk lpK retK AW A0l
set_option linter.unusedVariables false
set_option linter.unusedSimpArgs false
set_option maxRecDepth 100000
def a0N (x : d4) : Nat := x.Name.length + (x.Args.length + i5 o8 x.Args)
def o7 (x : c9) : Nat := a0N x.Atom + o8 x.A + o8 x.B
def m0 (x : c6) : Nat := a0N x.Head + (x.Body.length + i5 o7 x.Body)
def s9 (x : c7) : Nat := x.Name.length
def t6 (x : c8) : Nat := (x.Decls.length + i5 s9 x.Decls) + (x.Rules.length + i5 m0 x.Rules)
def a5k : ACode := q' ([o' 2 (.box 2 (.t 0)), z' 4 0]) (q' ([m' 5 1, f' 6 0 2, l' 7 6, o' 8 (.lens (.t 7)), o' 9 (.bin .sub (.t 5) (.t 8)), m' 1 9]) (.seq (q' ([m' 10 1, o' 11
 (.bin .lss (.t 10) (k' 0))]) (.cond (.t 11) (q' ([o' 4 (.mov (.k (.v false [.c (.i .i64 (-1))])))]) .ret) .skip)) (q' ([f' 12 1 2, l' 13 12, m' 14 1, c' 15
 178 [13, 14], m' 1 15]) (.seq (q' ([m' 16 1, o' 17 (.bin .lss (.t 16) (k' 0))]) (.cond (.t 17) (q' ([o' 4 (.mov (.k (.v false [.c (.i .i64 (-1))])))]) .ret)
 .skip)) (q' ([m' 18 1, m' 4 18]) .ret)))))
theorem b1Q : cmp Tryz.prog Tryz.f110 = some a5k := by kernel_rfl
theorem b3s (a : d4) (left : Int) (hpre : 0 ≤ left ∧ left ≤ 1048576) : A0l Tryz.prog 110 [(true, [.s a.Name, .sl false [.s [], .i .i64 0, .s []] (a.Args.map c4.cells)]), (false, [.i .i64 left])] [] (.one (false, [.i .i64 (szR left (a0N a : Nat))])) := by
 refine spec_of2 false false none Tryz.func110 b1Q (rvs := [.t 4]) (hΓ := mkCtx_ok (deep := false) (l := [(178, [], a1R)]) ⟨a7V, trivial⟩) (h := ?_)
 intro hb hE
 simp only [go_sem] at hb
 simp only [a5k, x']
 (try refine A2V ?_); simp only [go_sem]; (repeat' first | apply CJ.mk | intro hc); all_goals try ((repeat' first | apply And.intro | intro hs) <;> (try simp only [go_sem, Bool.and_eq_false_iff] at hs) <;> omega)
 all_goals ((repeat (simp (disch := omega) only [a0u] at *)) <;> (try simp only [szR, a0N] at *) <;> (first | omega | (split <;> omega)))
noncomputable def a0E : CT := o6 (fun (x : d4 × Int) h => b3s x.1 x.2 h)
@[go_sem] theorem b8G (x0 : List UInt8) (x1 : List c4) (x2 : Int) : a0E [(true, [.s x0, .sl false [.s [], .i .i64 0, .s []] (x1.map c4.cells)]), (false, [.i .i64 x2])] = some (0 ≤ x2 ∧ x2 ≤ 1048576, [], .one (false, [.i .i64 (szR x2 (a0N (d4.mk x0 x1) : Nat))])) := i3 _ (by rintro ⟨⟨_, _⟩, _⟩ ⟨⟨_, _⟩, _⟩ h; simp at h; simp_all) ((d4.mk x0 x1), x2)
theorem a3x : OkC Tryz.prog 110 a0E := i4 _
def a6G : ACode := q' ([o' 2 (.box 10 (.t 0)), z' 4 0]) (q' ([f' 5 1 2, e' 6 2 5, m' 7 1, c' 8 110 [6, 7], m' 1 8]) (.seq (q' ([m' 9 1, o' 10 (.bin .lss (.t 9) (k' 0))]) (.cond
 (.t 10) (q' ([o' 4 (.mov (.k (.v false [.c (.i .i64 (-1))])))]) .ret) .skip)) (q' ([f' 11 4 2, e' 12 3 11, m' 13 1, c' 14 263 [12, 13], m' 1 14]) (.seq (q'
 ([m' 15 1, o' 16 (.bin .lss (.t 15) (k' 0))]) (.cond (.t 16) (q' ([o' 4 (.mov (.k (.v false [.c (.i .i64 (-1))])))]) .ret) .skip)) (q' ([f' 17 7 2, e' 18 3
 17, m' 19 1, c' 20 263 [18, 19], m' 1 20]) (.seq (q' ([m' 21 1, o' 22 (.bin .lss (.t 21) (k' 0))]) (.cond (.t 22) (q' ([o' 4 (.mov (.k (.v false [.c (.i .i64
 (-1))])))]) .ret) .skip)) (q' ([m' 23 1, m' 4 23]) .ret)))))))
theorem b2Y : cmp Tryz.prog Tryz.f179 = some a6G := by kernel_rfl
theorem b4E (a : c9) (left : Int) (hpre : 0 ≤ left ∧ left ≤ 1048576) : A0l Tryz.prog 179 [(true, [.i .i64 a.Kind, .s a.Atom.Name, .sl false [.s [], .i .i64 0, .s []] (a.Atom.Args.map c4.cells), .i .i64 a.Op, .s a.A.Var, .i .i64 a.A.Val.N, .s a.A.Val.S, .s a.B.Var, .i .i64 a.B.Val.N, .s a.B.Val.S]), (false, [.i .i64 left])] [] (.one (false, [.i .i64 (szR left (o7 a : Nat))])) := by
 refine spec_of2 false false none Tryz.func179 b2Y (rvs := [.t 4]) (hΓ := mkCtx_ok (deep := false) (l := [(110, [], a0E), (263, [], a0F)]) ⟨a3x, a3y, trivial⟩) (h := ?_)
 intro hb hE
 simp only [go_sem] at hb
 simp only [a6G, x']
 (try refine A2V ?_); simp only [go_sem]; (repeat' first | apply CJ.mk | intro hc); all_goals try ((repeat' first | apply And.intro | intro hs) <;> (try simp only [go_sem, Bool.and_eq_false_iff] at hs) <;> omega)
 all_goals ((repeat (simp (disch := omega) only [a0u] at *)) <;> (try simp only [szR, o7] at *) <;> (first | omega | (split <;> omega)))
noncomputable def a3Y : CT := o6 (fun (x : c9 × Int) h => b4E x.1 x.2 h)
@[go_sem] theorem b9m (x0 : Int) (x1 : List UInt8) (x2 : List c4) (x3 : Int) (x4 : List UInt8) (x5 : Int) (x6 x7 : List UInt8) (x8 : Int) (x9 : List UInt8) (x10 : Int) : a3Y [(true, [.i .i64 x0, .s x1, .sl false [.s [], .i .i64 0, .s []] (x2.map c4.cells), .i .i64 x3, .s x4, .i .i64 x5, .s x6, .s x7, .i .i64 x8, .s x9]), (false, [.i .i64 x10])] = some (0 ≤ x10 ∧ x10 ≤ 1048576, [], .one (false, [.i .i64 (szR x10 (o7 (c9.mk x0 (d4.mk x1 x2) x3 (c4.mk x4 (d5.mk x5 x6)) (c4.mk x7 (d5.mk x8 x9))) : Nat))])) := i3 _ (by rintro ⟨⟨_, ⟨_, _⟩, _, ⟨_, ⟨_, _⟩⟩, ⟨_, ⟨_, _⟩⟩⟩, _⟩ ⟨⟨_, ⟨_, _⟩, _, ⟨_, ⟨_, _⟩⟩, ⟨_, ⟨_, _⟩⟩⟩, _⟩ h; simp at h; simp_all) ((c9.mk x0 (d4.mk x1 x2) x3 (c4.mk x4 (d5.mk x5 x6)) (c4.mk x7 (d5.mk x8 x9))), x10)
theorem b0l : OkC Tryz.prog 179 a3Y := i4 _
def a5m : ACode := q' ([z' 4 0]) (q' ([m' 6 1, m' 7 0, n' 8 7, o' 9 (.bin .sub (.t 6) (.t 8)), m' 1 9]) (.seq (q' ([m' 10 1, o' 11 (.bin .lss (.t 10) (k' 0))]) (.cond (.t 11) (q'
 ([o' 4 (.mov (.k (.v false [.c (.i .i64 (-1))])))]) .ret) .skip)) (.seq (q' ([z' 5 0]) (.block 0 (.loop (.seq (q' ([m' 12 5, m' 13 0, n' 14 13, r' 15 12 14])
 (.cond (.t 15) .skip (.exit 0))) (.seq (.block 1 (q' ([m' 18 0, m' 19 5, i' 20 10 18 19, e' 21 10 20, m' 22 1, c' 23 179 [21, 22], m' 1 23]) (q' ([m' 24 1, o'
 25 (.bin .lss (.t 24) (k' 0))]) (.cond (.t 25) (q' ([o' 4 (.mov (.k (.v false [.c (.i .i64 (-1))])))]) .ret) .skip)))) (g' [m' 16 5, a' 17 16, m' 5 17]))))))
 (q' ([m' 26 1, m' 4 26]) .ret))))
theorem b1S : cmp Tryz.prog Tryz.f111 = some a5m := by kernel_rfl
theorem b3u (a : List c9) (left : Int) (hpre : 0 ≤ left ∧ left ≤ 1048576) : A0l Tryz.prog 111 [(false, [.sl false [.i .i64 0, .s [], .sl false [.s [], .i .i64 0, .s []] [], .i .i64 0, .s [], .i .i64 0, .s [], .s [], .i .i64 0, .s []] (a.map (c9.cells false false))]), (false, [.i .i64 left])] [] (.one (false, [.i .i64 (szR left ((a.length + i5 o7 a) : Nat))])) := by
 refine spec_of2 false false none Tryz.func111 b1S (rvs := [.t 4]) (hΓ := mkCtx_ok (deep := false) (l := [(179, [], a3Y)]) ⟨b0l, trivial⟩) (h := ?_)
 intro hb hE
 simp only [go_sem] at hb
 simp only [a5m, x']
 (try refine A2V ?_); simp only [go_sem]; (repeat' first | apply CJ.mk | intro hc); all_goals try ((repeat' first | apply And.intro | intro hs) <;> (try simp only [go_sem, Bool.and_eq_false_iff] at hs) <;> omega)
 ·all_goals ((repeat (simp (disch := omega) only [a0u] at *)) <;> (try simp only [szR, szR] at *) <;> (first | omega | (split <;> omega)))
 have hw := a0u (l := left) (n := a.length) (by omega) (by omega) (by omega) (by omega)
 rw [hw] at hc
 refine aw_loop2 false [] [0] [] [] (fun i : {i : Nat // i ≤ a.length ∧ (a.length : Int) + (i5 o7 (a.take i) : Nat) ≤ left} => [(5, slV (.i .i64 i.1)), (1, slV (.i .i64 (left - a.length - (i5 o7 (a.take i.1) : Nat))))]) (fun i => []) (fun i => []) (fun i => a.length - i.1) (⟨0, by simp only [List.take_zero, a6b]; omega⟩) _ rfl ?_ ?_
 ·simp only [go_sem, hw]
  all_goals first | omega | ((repeat' apply And.intro) <;> first | omega | rfl | skip)
 intro S0 hS0 i
 simp only [go_sem, hw] at hS0
 obtain ⟨i, hi, ht⟩ := i
 (try refine A2V ?_); simp only [go_sem, hw, hS0]; (repeat' first | apply CJ.mk | intro hc); all_goals try ((repeat' first | apply And.intro | intro hs) <;> (try simp only [go_sem, Bool.and_eq_false_iff] at hs) <;> omega)
 ·have h1 := k7 o7 (default : c9) (show i < a.length by omega)
  have h2 := s7 o7 a (i + 1)
  all_goals ((repeat (simp (disch := omega) only [a0u] at *)) <;> (try simp only [szR, szR] at *) <;> (first | omega | (split <;> omega)))
 ·have h1 := k7 o7 (default : c9) (show i < a.length by omega)
  (refine lpK_n2 (⟨i + 1, by omega, by unfold szR at hc; split at hc <;> omega⟩) _ rfl ?_; simp only [go_sem, hw, hS0]; first | done | ((repeat' apply And.intro) <;> first | omega | (refine w64 ?_ ?_ ?_ <;> omega) | rfl | skip))
  rw [h1]
  unfold szR at hc ⊢
  split at hc <;> omega
 ·have h1 := a3E o7 (show ¬ i < a.length by omega)
  all_goals ((repeat (simp (disch := omega) only [a0u] at *)) <;> (try simp only [szR, szR] at *) <;> (first | omega | (split <;> omega)))
 all_goals all_goals ((repeat (simp (disch := omega) only [a0u] at *)) <;> (try simp only [szR, szR] at *) <;> (first | omega | (split <;> omega)))
noncomputable def a2M : CT := o6 (fun (x : (List c9) × Int) h => b3u x.1 x.2 h)
@[go_sem] theorem b8I (a : List c9) (x0 : Int) : a2M [(false, [.sl false [.i .i64 0, .s [], .sl false [.s [], .i .i64 0, .s []] [], .i .i64 0, .s [], .i .i64 0, .s [], .s [], .i .i64 0, .s []] (a.map (c9.cells false false))]), (false, [.i .i64 x0])] = some (0 ≤ x0 ∧ x0 ≤ 1048576, [], .one (false, [.i .i64 (szR x0 ((a.length + i5 o7 a) : Nat))])) := i3 _ (by rintro ⟨_, _⟩ ⟨_, _⟩ h; simp at h; simp_all) (a, x0)
theorem a8W : OkC Tryz.prog 111 a2M := i4 _
def a5n : ACode := q' ([o' 2 (.box 4 (.t 0)), z' 4 0]) (q' ([f' 5 1 2, e' 6 2 5, m' 7 1, c' 8 110 [6, 7], m' 1 8]) (.seq (q' ([m' 9 1, o' 10 (.bin .lss (.t 9) (k' 0))]) (.cond (.t
 10) (q' ([o' 4 (.mov (.k (.v false [.c (.i .i64 (-1))])))]) .ret) .skip)) (q' ([f' 11 3 2, l' 12 11, m' 13 1, c' 14 111 [12, 13], m' 1 14]) (.seq (q' ([m' 15
 1, o' 16 (.bin .lss (.t 15) (k' 0))]) (.cond (.t 16) (q' ([o' 4 (.mov (.k (.v false [.c (.i .i64 (-1))])))]) .ret) .skip)) (q' ([m' 17 1, m' 4 17]) .ret)))))
theorem b1T : cmp Tryz.prog Tryz.f46 = some a5n := by kernel_rfl
theorem b3v (a : c6) (left : Int) (hpre : 0 ≤ left ∧ left ≤ 1048576) : A0l Tryz.prog 46 [(true, [.i .i64 a.Kind, .s a.Head.Name, .sl false [.s [], .i .i64 0, .s []] (a.Head.Args.map c4.cells), .sl false [.i .i64 0, .s [], .sl false [.s [], .i .i64 0, .s []] [], .i .i64 0, .s [], .i .i64 0, .s [], .s [], .i .i64 0, .s []] (a.Body.map (c9.cells false false))]), (false, [.i .i64 left])] [] (.one (false, [.i .i64 (szR left (m0 a : Nat))])) := by
 refine spec_of2 false false none Tryz.func46 b1T (rvs := [.t 4]) (hΓ := mkCtx_ok (deep := false) (l := [(110, [], a0E), (111, [], a2M)]) ⟨a3x, a8W, trivial⟩) (h := ?_)
 intro hb hE
 simp only [go_sem] at hb
 simp only [a5n, x']
 (try refine A2V ?_); simp only [go_sem]; (repeat' first | apply CJ.mk | intro hc); all_goals try ((repeat' first | apply And.intro | intro hs) <;> (try simp only [go_sem, Bool.and_eq_false_iff] at hs) <;> omega)
 all_goals ((repeat (simp (disch := omega) only [a0u] at *)) <;> (try simp only [szR, m0] at *) <;> (first | omega | (split <;> omega)))
noncomputable def a2N : CT := o6 (fun (x : c6 × Int) h => b3v x.1 x.2 h)
@[go_sem] theorem b8J (x0 : Int) (x1 : List UInt8) (x2 : List c4) (x3 : List c9) (x4 : Int) : a2N [(true, [.i .i64 x0, .s x1, .sl false [.s [], .i .i64 0, .s []] (x2.map c4.cells), .sl false [.i .i64 0, .s [], .sl false [.s [], .i .i64 0, .s []] [], .i .i64 0, .s [], .i .i64 0, .s [], .s [], .i .i64 0, .s []] (x3.map (c9.cells false false))]), (false, [.i .i64 x4])] = some (0 ≤ x4 ∧ x4 ≤ 1048576, [], .one (false, [.i .i64 (szR x4 (m0 (c6.mk x0 (d4.mk x1 x2) x3) : Nat))])) := i3 _ (by rintro ⟨⟨_, ⟨_, _⟩, _⟩, _⟩ ⟨⟨_, ⟨_, _⟩, _⟩, _⟩ h; simp at h; simp_all) ((c6.mk x0 (d4.mk x1 x2) x3), x4)
theorem a8X : OkC Tryz.prog 46 a2N := i4 _
def a4x : ACode := q' ([z' 4 0]) (q' ([m' 6 1, m' 7 0, n' 8 7, o' 9 (.bin .sub (.t 6) (.t 8)), m' 1 9]) (.seq (q' ([m' 10 1, o' 11 (.bin .lss (.t 10) (k' 0))]) (.cond (.t 11) (q'
 ([o' 4 (.mov (.k (.v false [.c (.i .i64 (-1))])))]) .ret) .skip)) (.seq (q' ([z' 5 0]) (.block 0 (.loop (.seq (q' ([m' 12 5, m' 13 0, n' 14 13, r' 15 12 14])
 (.cond (.t 15) .skip (.exit 0))) (.seq (.block 1 (q' ([m' 18 0, m' 19 5, i' 20 4 18 19, e' 21 4 20, m' 22 1, c' 23 46 [21, 22], m' 1 23]) (q' ([m' 24 1, o' 25
 (.bin .lss (.t 24) (k' 0))]) (.cond (.t 25) (q' ([o' 4 (.mov (.k (.v false [.c (.i .i64 (-1))])))]) .ret) .skip)))) (g' [m' 16 5, a' 17 16, m' 5 17])))))) (q'
 ([m' 26 1, m' 4 26]) .ret))))
theorem b0B : cmp Tryz.prog Tryz.f61 = some a4x := by kernel_rfl
theorem b2w (a : List c6) (left : Int) (hpre : 0 ≤ left ∧ left ≤ 1048576) : A0l Tryz.prog 61 [(false, [.sl false [.i .i64 0, .s [], .sl false [.s [], .i .i64 0, .s []] [], .sl false [.i .i64 0, .s [], .sl false [.s [], .i .i64 0, .s []] [], .i .i64 0, .s [], .i .i64 0, .s [], .s [], .i .i64 0, .s []] []] (a.map (c6.cells false false))]), (false, [.i .i64 left])] [] (.one (false, [.i .i64 (szR left ((a.length + i5 m0 a) : Nat))])) := by
 refine spec_of2 false false none Tryz.func61 b0B (rvs := [.t 4]) (hΓ := mkCtx_ok (deep := false) (l := [(46, [], a2N)]) ⟨a8X, trivial⟩) (h := ?_)
 intro hb hE
 simp only [go_sem] at hb
 simp only [a4x, x']
 (try refine A2V ?_); simp only [go_sem]; (repeat' first | apply CJ.mk | intro hc); all_goals try ((repeat' first | apply And.intro | intro hs) <;> (try simp only [go_sem, Bool.and_eq_false_iff] at hs) <;> omega)
 ·all_goals ((repeat (simp (disch := omega) only [a0u] at *)) <;> (try simp only [szR, szR] at *) <;> (first | omega | (split <;> omega)))
 have hw := a0u (l := left) (n := a.length) (by omega) (by omega) (by omega) (by omega)
 rw [hw] at hc
 refine aw_loop2 false [] [0] [] [] (fun i : {i : Nat // i ≤ a.length ∧ (a.length : Int) + (i5 m0 (a.take i) : Nat) ≤ left} => [(5, slV (.i .i64 i.1)), (1, slV (.i .i64 (left - a.length - (i5 m0 (a.take i.1) : Nat))))]) (fun i => []) (fun i => []) (fun i => a.length - i.1) (⟨0, by simp only [List.take_zero, a6b]; omega⟩) _ rfl ?_ ?_
 ·simp only [go_sem, hw]
  all_goals first | omega | ((repeat' apply And.intro) <;> first | omega | rfl | skip)
 intro S0 hS0 i
 simp only [go_sem, hw] at hS0
 obtain ⟨i, hi, ht⟩ := i
 (try refine A2V ?_); simp only [go_sem, hw, hS0]; (repeat' first | apply CJ.mk | intro hc); all_goals try ((repeat' first | apply And.intro | intro hs) <;> (try simp only [go_sem, Bool.and_eq_false_iff] at hs) <;> omega)
 ·have h1 := k7 m0 (default : c6) (show i < a.length by omega)
  have h2 := s7 m0 a (i + 1)
  all_goals ((repeat (simp (disch := omega) only [a0u] at *)) <;> (try simp only [szR, szR] at *) <;> (first | omega | (split <;> omega)))
 ·have h1 := k7 m0 (default : c6) (show i < a.length by omega)
  (refine lpK_n2 (⟨i + 1, by omega, by unfold szR at hc; split at hc <;> omega⟩) _ rfl ?_; simp only [go_sem, hw, hS0]; first | done | ((repeat' apply And.intro) <;> first | omega | (refine w64 ?_ ?_ ?_ <;> omega) | rfl | skip))
  rw [h1]
  unfold szR at hc ⊢
  split at hc <;> omega
 ·have h1 := a3E m0 (show ¬ i < a.length by omega)
  all_goals ((repeat (simp (disch := omega) only [a0u] at *)) <;> (try simp only [szR, szR] at *) <;> (first | omega | (split <;> omega)))
 all_goals all_goals ((repeat (simp (disch := omega) only [a0u] at *)) <;> (try simp only [szR, szR] at *) <;> (first | omega | (split <;> omega)))
noncomputable def a1Q : CT := o6 (fun (x : (List c6) × Int) h => b2w x.1 x.2 h)
@[go_sem] theorem b7x (a : List c6) (x0 : Int) : a1Q [(false, [.sl false [.i .i64 0, .s [], .sl false [.s [], .i .i64 0, .s []] [], .sl false [.i .i64 0, .s [], .sl false [.s [], .i .i64 0, .s []] [], .i .i64 0, .s [], .i .i64 0, .s [], .s [], .i .i64 0, .s []] []] (a.map (c6.cells false false))]), (false, [.i .i64 x0])] = some (0 ≤ x0 ∧ x0 ≤ 1048576, [], .one (false, [.i .i64 (szR x0 ((a.length + i5 m0 a) : Nat))])) := i3 _ (by rintro ⟨_, _⟩ ⟨_, _⟩ h; simp at h; simp_all) (a, x0)
theorem a7U : OkC Tryz.prog 61 a1Q := i4 _
def a5l : ACode := q' ([o' 2 (.box 3 (.t 0)), z' 4 0]) (q' ([m' 5 1, f' 6 1 2, l' 7 6, o' 8 (.lens (.t 7)), o' 9 (.bin .sub (.t 5) (.t 8)), m' 1 9]) (.seq (q' ([m' 10 1, o' 11
 (.bin .lss (.t 10) (k' 0))]) (.cond (.t 11) (q' ([o' 4 (.mov (.k (.v false [.c (.i .i64 (-1))])))]) .ret) .skip)) (q' ([m' 12 1, m' 4 12]) .ret)))
theorem b1R : cmp Tryz.prog Tryz.f133 = some a5l := by kernel_rfl
theorem b3t (a : c7) (left : Int) (hpre : 0 ≤ left ∧ left ≤ 1048576) : A0l Tryz.prog 133 [(true, [.i .i64 a.Kind, .s a.Name, .i .i64 a.Arity]), (false, [.i .i64 left])] [] (.one (false, [.i .i64 (szR left (s9 a : Nat))])) := by
 refine spec_of2 false false none Tryz.func133 b1R (rvs := [.t 4]) (hΓ := mkCtx_ok (deep := false) (l := []) trivial) (h := ?_)
 intro hb hE
 simp only [go_sem] at hb
 simp only [a5l, x']
 (try refine A2V ?_); simp only [go_sem]; (repeat' first | apply CJ.mk | intro hc); all_goals try ((repeat' first | apply And.intro | intro hs) <;> (try simp only [go_sem, Bool.and_eq_false_iff] at hs) <;> omega)
 all_goals ((repeat (simp (disch := omega) only [a0u] at *)) <;> (try simp only [szR, s9] at *) <;> (first | omega | (split <;> omega)))
noncomputable def a2L : CT := o6 (fun (x : c7 × Int) h => b3t x.1 x.2 h)
@[go_sem] theorem b8H (x0 : Int) (x1 : List UInt8) (x2 x3 : Int) : a2L [(true, [.i .i64 x0, .s x1, .i .i64 x2]), (false, [.i .i64 x3])] = some (0 ≤ x3 ∧ x3 ≤ 1048576, [], .one (false, [.i .i64 (szR x3 (s9 (c7.mk x0 x1 x2) : Nat))])) := i3 _ (by rintro ⟨⟨_, _, _⟩, _⟩ ⟨⟨_, _, _⟩, _⟩ h; simp at h; simp_all) ((c7.mk x0 x1 x2), x3)
theorem a8V : OkC Tryz.prog 133 a2L := i4 _
def a4w : ACode := q' ([z' 4 0]) (q' ([m' 6 1, m' 7 0, n' 8 7, o' 9 (.bin .sub (.t 6) (.t 8)), m' 1 9]) (.seq (q' ([m' 10 1, o' 11 (.bin .lss (.t 10) (k' 0))]) (.cond (.t 11) (q'
 ([o' 4 (.mov (.k (.v false [.c (.i .i64 (-1))])))]) .ret) .skip)) (.seq (q' ([z' 5 0]) (.block 0 (.loop (.seq (q' ([m' 12 5, m' 13 0, n' 14 13, r' 15 12 14])
 (.cond (.t 15) .skip (.exit 0))) (.seq (.block 1 (q' ([m' 18 0, m' 19 5, i' 20 3 18 19, e' 21 3 20, m' 22 1, c' 23 133 [21, 22], m' 1 23]) (q' ([m' 24 1, o'
 25 (.bin .lss (.t 24) (k' 0))]) (.cond (.t 25) (q' ([o' 4 (.mov (.k (.v false [.c (.i .i64 (-1))])))]) .ret) .skip)))) (g' [m' 16 5, a' 17 16, m' 5 17]))))))
 (q' ([m' 26 1, m' 4 26]) .ret))))
theorem b0A : cmp Tryz.prog Tryz.f60 = some a4w := by kernel_rfl
theorem b2v (a : List c7) (left : Int) (hpre : 0 ≤ left ∧ left ≤ 1048576) : A0l Tryz.prog 60 [(false, [.sl false [.i .i64 0, .s [], .i .i64 0] (a.map c7.cells)]), (false, [.i .i64 left])] [] (.one (false, [.i .i64 (szR left ((a.length + i5 s9 a) : Nat))])) := by
 refine spec_of2 false false none Tryz.func60 b0A (rvs := [.t 4]) (hΓ := mkCtx_ok (deep := false) (l := [(133, [], a2L)]) ⟨a8V, trivial⟩) (h := ?_)
 intro hb hE
 simp only [go_sem] at hb
 simp only [a4w, x']
 (try refine A2V ?_); simp only [go_sem]; (repeat' first | apply CJ.mk | intro hc); all_goals try ((repeat' first | apply And.intro | intro hs) <;> (try simp only [go_sem, Bool.and_eq_false_iff] at hs) <;> omega)
 ·all_goals ((repeat (simp (disch := omega) only [a0u] at *)) <;> (try simp only [szR, szR] at *) <;> (first | omega | (split <;> omega)))
 have hw := a0u (l := left) (n := a.length) (by omega) (by omega) (by omega) (by omega)
 rw [hw] at hc
 refine aw_loop2 false [] [0] [] [] (fun i : {i : Nat // i ≤ a.length ∧ (a.length : Int) + (i5 s9 (a.take i) : Nat) ≤ left} => [(5, slV (.i .i64 i.1)), (1, slV (.i .i64 (left - a.length - (i5 s9 (a.take i.1) : Nat))))]) (fun i => []) (fun i => []) (fun i => a.length - i.1) (⟨0, by simp only [List.take_zero, a6b]; omega⟩) _ rfl ?_ ?_
 ·simp only [go_sem, hw]
  all_goals first | omega | ((repeat' apply And.intro) <;> first | omega | rfl | skip)
 intro S0 hS0 i
 simp only [go_sem, hw] at hS0
 obtain ⟨i, hi, ht⟩ := i
 (try refine A2V ?_); simp only [go_sem, hw, hS0]; (repeat' first | apply CJ.mk | intro hc); all_goals try ((repeat' first | apply And.intro | intro hs) <;> (try simp only [go_sem, Bool.and_eq_false_iff] at hs) <;> omega)
 ·have h1 := k7 s9 (default : c7) (show i < a.length by omega)
  have h2 := s7 s9 a (i + 1)
  all_goals ((repeat (simp (disch := omega) only [a0u] at *)) <;> (try simp only [szR, szR] at *) <;> (first | omega | (split <;> omega)))
 ·have h1 := k7 s9 (default : c7) (show i < a.length by omega)
  (refine lpK_n2 (⟨i + 1, by omega, by unfold szR at hc; split at hc <;> omega⟩) _ rfl ?_; simp only [go_sem, hw, hS0]; first | done | ((repeat' apply And.intro) <;> first | omega | (refine w64 ?_ ?_ ?_ <;> omega) | rfl | skip))
  rw [h1]
  unfold szR at hc ⊢
  split at hc <;> omega
 ·have h1 := a3E s9 (show ¬ i < a.length by omega)
  all_goals ((repeat (simp (disch := omega) only [a0u] at *)) <;> (try simp only [szR, szR] at *) <;> (first | omega | (split <;> omega)))
 all_goals all_goals ((repeat (simp (disch := omega) only [a0u] at *)) <;> (try simp only [szR, szR] at *) <;> (first | omega | (split <;> omega)))
noncomputable def a1P : CT := o6 (fun (x : (List c7) × Int) h => b2v x.1 x.2 h)
@[go_sem] theorem b7w (a : List c7) (x0 : Int) : a1P [(false, [.sl false [.i .i64 0, .s [], .i .i64 0] (a.map c7.cells)]), (false, [.i .i64 x0])] = some (0 ≤ x0 ∧ x0 ≤ 1048576, [], .one (false, [.i .i64 (szR x0 ((a.length + i5 s9 a) : Nat))])) := i3 _ (by rintro ⟨_, _⟩ ⟨_, _⟩ h; simp at h; simp_all) (a, x0)
theorem a7T : OkC Tryz.prog 60 a1P := i4 _
def a2l : ACode := q' ([o' 2 (.box 2 (.t 0)), z' 4 0]) (q' ([f' 5 0 2, l' 6 5, m' 7 1, c' 8 60 [6, 7], m' 1 8]) (.seq (q' ([m' 9 1, o' 10 (.bin .lss (.t 9) (k' 0))]) (.cond (.t
 10) (q' ([o' 4 (.mov (.k (.v false [.c (.i .i64 (-1))])))]) .ret) .skip)) (q' ([f' 11 1 2, l' 12 11, m' 13 1, c' 14 61 [12, 13], m' 1 14]) (.seq (q' ([m' 15
 1, o' 16 (.bin .lss (.t 15) (k' 0))]) (.cond (.t 16) (q' ([o' 4 (.mov (.k (.v false [.c (.i .i64 (-1))])))]) .ret) .skip)) (q' ([m' 17 1, m' 4 17]) .ret)))))
theorem a8l : cmp Tryz.prog Tryz.f12 = some a2l := by kernel_rfl
theorem a9D (a : c8) (left : Int) (hpre : 0 ≤ left ∧ left ≤ 1048576) : A0l Tryz.prog 12 [(true, [.sl false [.i .i64 0, .s [], .i .i64 0] (a.Decls.map c7.cells), .sl false [.i .i64 0, .s [], .sl false [.s [], .i .i64 0, .s []] [], .sl false [.i .i64 0, .s [], .sl false [.s [], .i .i64 0, .s []] [], .i .i64 0, .s [], .i .i64 0, .s [], .s [], .i .i64 0, .s []] []] (a.Rules.map (c6.cells false false))]), (false, [.i .i64 left])] [] (.one (false, [.i .i64 (szR left (t6 a : Nat))])) := by
 refine spec_of2 false false none Tryz.func12 a8l (rvs := [.t 4]) (hΓ := mkCtx_ok (deep := false) (l := [(60, [], a1P), (61, [], a1Q)]) ⟨a7T, a7U, trivial⟩) (h := ?_)
 intro hb hE
 simp only [go_sem] at hb
 simp only [a2l, x']
 (try refine A2V ?_); simp only [go_sem]; (repeat' first | apply CJ.mk | intro hc); all_goals try ((repeat' first | apply And.intro | intro hs) <;> (try simp only [go_sem, Bool.and_eq_false_iff] at hs) <;> omega)
 all_goals ((repeat (simp (disch := omega) only [a0u] at *)) <;> (try simp only [szR, t6] at *) <;> (first | omega | (split <;> omega)))
noncomputable def a0l : CT := o6 (fun (x : c8 × Int) h => a9D x.1 x.2 h)
@[go_sem] theorem b5T (x0 : List c7) (x1 : List c6) (x2 : Int) : a0l [(true, [.sl false [.i .i64 0, .s [], .i .i64 0] (x0.map c7.cells), .sl false [.i .i64 0, .s [], .sl false [.s [], .i .i64 0, .s []] [], .sl false [.i .i64 0, .s [], .sl false [.s [], .i .i64 0, .s []] [], .i .i64 0, .s [], .i .i64 0, .s [], .s [], .i .i64 0, .s []] []] (x1.map (c6.cells false false))]), (false, [.i .i64 x2])] = some (0 ≤ x2 ∧ x2 ≤ 1048576, [], .one (false, [.i .i64 (szR x2 (t6 (c8.mk x0 x1) : Nat))])) := i3 _ (by rintro ⟨⟨_, _⟩, _⟩ ⟨⟨_, _⟩, _⟩ h; simp at h; simp_all) ((c8.mk x0 x1), x2)
theorem a6m : OkC Tryz.prog 12 a0l := i4 _
def a5p : ACode := q' ([o' 1 (.box 2 (.t 0)), w' 2 [.s, .sl [.s [], .i .i64 0, .s []]]]) (q' ([w' 3 [.s, .sl [.s [], .i .i64 0, .s []]]]) (q' ([f' 4 0 1, l' 5 4, f' 6 0 3, s' 1 6
 5]) (q' ([f' 7 1 1, l' 8 7, c' 9 189 [8], f' 10 1 3, s' 1 10 9]) (q' ([e' 11 2 3, s' 2 2 11]) .ret))))
theorem b1V : cmp Tryz.prog Tryz.f115 = some a5p := by kernel_rfl
theorem b3x (a : d4) (hpre : (a0N a : Int) ≤ 1048576) : A0l Tryz.prog 115 [(true, [.s a.Name, .sl false [.s [], .i .i64 0, .s []] (a.Args.map c4.cells)])] [] (.one (true, [.s a.Name, .sl true [.s [], .i .i64 0, .s []] (a.Args.map c4.cells)])) := by
 refine spec_of2 true false none Tryz.func115 b1V (rvs := [.c 2 true 2]) (hΓ := mkCtx_ok (deep := true) (l := [(189, [], a1V)]) ⟨a7Z, trivial⟩) (h := ?_)
 intro hb hE
 simp only [go_sem] at hb
 simp only [a5p, x']
 (try refine A2V ?_); simp only [go_sem]; (repeat' first | apply CJ.mk | intro hc); all_goals try ((repeat' first | apply And.intro | intro hs) <;> (try simp only [go_sem, Bool.and_eq_false_iff] at hs) <;> omega)
 all_goals (simp only [a0N] at *; omega)
noncomputable def a0G : CT := o6 (fun (x : d4) h => b3x x h)
@[go_sem] theorem b8L (x0 : List UInt8) (x1 : List c4) : a0G [(true, [.s x0, .sl false [.s [], .i .i64 0, .s []] (x1.map c4.cells)])] = some ((a0N (d4.mk x0 x1) : Int) ≤ 1048576, [], .one (true, [.s ((d4.mk x0 x1).Name), .sl true [.s [], .i .i64 0, .s []] (((d4.mk x0 x1).Args).map c4.cells)])) := i3 _ (by rintro ⟨_, _⟩ ⟨_, _⟩ h; simp at h; simp_all) (d4.mk x0 x1)
theorem a3z : OkC Tryz.prog 115 a0G := i4 _
def a6H : ACode := q' ([o' 1 (.box 10 (.t 0)), w' 2 [.i .i64, .s, .sl [.s [], .i .i64 0, .s []], .i .i64, .s, .i .i64, .s, .s, .i .i64, .s]]) (q' ([w' 3 [.i .i64, .s, .sl [.s [],
 .i .i64 0, .s []], .i .i64, .s, .i .i64, .s, .s, .i .i64, .s]]) (q' ([f' 4 0 1, l' 5 4, f' 6 0 3, s' 1 6 5]) (q' ([f' 7 1 1, e' 8 2 7, c' 9 115 [8], f' 10 1
 3, s' 2 10 9]) (q' ([f' 11 3 1, l' 12 11, f' 13 3 3, s' 1 13 12]) (q' ([f' 14 4 1, e' 15 3 14, c' 16 272 [15], f' 17 4 3, s' 3 17 16]) (q' ([f' 18 7 1, e' 19
 3 18, c' 20 272 [19], f' 21 7 3, s' 3 21 20]) (q' ([e' 22 10 3, s' 10 2 22]) .ret)))))))
theorem b2Z : cmp Tryz.prog Tryz.f190 = some a6H := by kernel_rfl
theorem b4F (a : c9) (hpre : (o7 a : Int) ≤ 1048576) : A0l Tryz.prog 190 [(true, [.i .i64 a.Kind, .s a.Atom.Name, .sl false [.s [], .i .i64 0, .s []] (a.Atom.Args.map c4.cells), .i .i64 a.Op, .s a.A.Var, .i .i64 a.A.Val.N, .s a.A.Val.S, .s a.B.Var, .i .i64 a.B.Val.N, .s a.B.Val.S])] [] (.one (true, [.i .i64 a.Kind, .s a.Atom.Name, .sl true [.s [], .i .i64 0, .s []] (a.Atom.Args.map c4.cells), .i .i64 a.Op, .s a.A.Var, .i .i64 a.A.Val.N, .s a.A.Val.S, .s a.B.Var, .i .i64 a.B.Val.N, .s a.B.Val.S])) := by
 refine spec_of2 true false none Tryz.func190 b2Z (rvs := [.c 2 true 10]) (hΓ := mkCtx_ok (deep := true) (l := [(115, [], a0G), (272, [], a0H)]) ⟨a3z, a3A, trivial⟩) (h := ?_)
 intro hb hE
 simp only [go_sem] at hb
 simp only [a6H, x']
 (try refine A2V ?_); simp only [go_sem]; (repeat' first | apply CJ.mk | intro hc); all_goals try ((repeat' first | apply And.intro | intro hs) <;> (try simp only [go_sem, Bool.and_eq_false_iff] at hs) <;> omega)
 all_goals (simp only [o7] at *; omega)
noncomputable def a3Z : CT := o6 (fun (x : c9) h => b4F x h)
@[go_sem] theorem b9n (x0 : Int) (x1 : List UInt8) (x2 : List c4) (x3 : Int) (x4 : List UInt8) (x5 : Int) (x6 x7 : List UInt8) (x8 : Int) (x9 : List UInt8) : a3Z [(true, [.i .i64 x0, .s x1, .sl false [.s [], .i .i64 0, .s []] (x2.map c4.cells), .i .i64 x3, .s x4, .i .i64 x5, .s x6, .s x7, .i .i64 x8, .s x9])] = some ((o7 (c9.mk x0 (d4.mk x1 x2) x3 (c4.mk x4 (d5.mk x5 x6)) (c4.mk x7 (d5.mk x8 x9))) : Int) ≤ 1048576, [], .one (true, [.i .i64 ((c9.mk x0 (d4.mk x1 x2) x3 (c4.mk x4 (d5.mk x5 x6)) (c4.mk x7 (d5.mk x8 x9))).Kind), .s (((c9.mk x0 (d4.mk x1 x2) x3 (c4.mk x4 (d5.mk x5 x6)) (c4.mk x7 (d5.mk x8 x9))).Atom).Name), .sl true [.s [], .i .i64 0, .s []] ((((c9.mk x0 (d4.mk x1 x2) x3 (c4.mk x4 (d5.mk x5 x6)) (c4.mk x7 (d5.mk x8 x9))).Atom).Args).map c4.cells), .i .i64 ((c9.mk x0 (d4.mk x1 x2) x3 (c4.mk x4 (d5.mk x5 x6)) (c4.mk x7 (d5.mk x8 x9))).Op), .s (((c9.mk x0 (d4.mk x1 x2) x3 (c4.mk x4 (d5.mk x5 x6)) (c4.mk x7 (d5.mk x8 x9))).A).Var), .i .i64 ((((c9.mk x0 (d4.mk x1 x2) x3 (c4.mk x4 (d5.mk x5 x6)) (c4.mk x7 (d5.mk x8 x9))).A).Val).N), .s ((((c9.mk x0 (d4.mk x1 x2) x3 (c4.mk x4 (d5.mk x5 x6)) (c4.mk x7 (d5.mk x8 x9))).A).Val).S), .s (((c9.mk x0 (d4.mk x1 x2) x3 (c4.mk x4 (d5.mk x5 x6)) (c4.mk x7 (d5.mk x8 x9))).B).Var), .i .i64 ((((c9.mk x0 (d4.mk x1 x2) x3 (c4.mk x4 (d5.mk x5 x6)) (c4.mk x7 (d5.mk x8 x9))).B).Val).N), .s ((((c9.mk x0 (d4.mk x1 x2) x3 (c4.mk x4 (d5.mk x5 x6)) (c4.mk x7 (d5.mk x8 x9))).B).Val).S)])) := i3 _ (by rintro ⟨_, ⟨_, _⟩, _, ⟨_, ⟨_, _⟩⟩, ⟨_, ⟨_, _⟩⟩⟩ ⟨_, ⟨_, _⟩, _, ⟨_, ⟨_, _⟩⟩, ⟨_, ⟨_, _⟩⟩⟩ h; simp at h; simp_all) (c9.mk x0 (d4.mk x1 x2) x3 (c4.mk x4 (d5.mk x5 x6)) (c4.mk x7 (d5.mk x8 x9)))
theorem b0m : OkC Tryz.prog 190 a3Z := i4 _
def a5r : ACode := q' ([o' 2 (.mov (.k (.v false [.nl [.i .i64 0, .s [], .sl false [.s [], .i .i64 0, .s []] [], .i .i64 0, .s [], .i .i64 0, .s [], .s [], .i .i64 0, .s []]])))])
 (q' ([m' 5 0, n' 6 5, o' 7 (.mks 10 136 [.i .i64, .s, .sl [.s [], .i .i64 0, .s []], .i .i64, .s, .i .i64, .s, .s, .i .i64, .s] (.t 6) (.t 6)), m' 3 7]) (.seq
 (q' ([z' 4 0]) (.block 0 (.loop (.seq (q' ([m' 8 4, m' 9 0, n' 10 9, r' 11 8 10]) (.cond (.t 11) .skip (.exit 0))) (.seq (.block 1 (g' [m' 14 3, m' 15 4, m'
 16 0, m' 17 4, i' 18 10 16 17, e' 19 10 18, c' 20 190 [19], i' 21 10 14 15, s' 10 21 20])) (g' [m' 12 4, a' 13 12, m' 4 13])))))) (q' ([m' 22 3, m' 2 22])
 .ret)))
theorem b1X : cmp Tryz.prog Tryz.f116 = some a5r := by kernel_rfl
theorem b3z (a : List c9) (hpre : (((a.length + i5 o7 a) : Nat) : Int) ≤ 1048576) : A0l Tryz.prog 116 [(false, [.sl false [.i .i64 0, .s [], .sl false [.s [], .i .i64 0, .s []] [], .i .i64 0, .s [], .i .i64 0, .s [], .s [], .i .i64 0, .s []] (a.map (c9.cells false false))])] [] (.one (false, [.sl true [.i .i64 0, .s [], .sl true [.s [], .i .i64 0, .s []] [], .i .i64 0, .s [], .i .i64 0, .s [], .s [], .i .i64 0, .s []] (a.map (c9.cells true true))])) := by
 refine spec_of2 true false none Tryz.func116 b1X (rvs := [.t 2]) (hΓ := mkCtx_ok (deep := true) (l := [(190, [], a3Z)]) ⟨b0m, trivial⟩) (h := ?_)
 intro hb hE
 simp only [go_sem] at hb
 simp only [a5r, x']
 (try refine A2V ?_); simp only [go_sem, a4T]; (repeat' first | apply CJ.mk | intro hc); all_goals try ((repeat' first | apply And.intro | intro hs) <;> (try simp only [go_sem, Bool.and_eq_false_iff] at hs) <;> omega)
 refine aw_loop2 true [] [0, 3] [] [] (fun i : {p : Nat × (List c9) // p.1 ≤ a.length ∧ p.2.length = a.length ∧ p.2.take p.1 = a.take p.1} => [(4, slV (.i .i64 i.1.1))]) (fun i => []) (fun i => [(896, [.i .i64 0, .s [], .sl true [.s [], .i .i64 0, .s []] [], .i .i64 0, .s [], .i .i64 0, .s [], .s [], .i .i64 0, .s []], i.1.2.map (c9.cells true true))]) (fun i => a.length - i.1.1) (⟨(0, List.replicate a.length default), by simp⟩) _ rfl ?_ ?_
 ·simp only [go_sem, a4T]
  all_goals first | omega | ((repeat' apply And.intro) <;> first | omega | rfl | skip)
 intro S0 hS0 i
 simp only [go_sem, a4T] at hS0
 obtain ⟨⟨i, L⟩, hi, hl, ht⟩ := i
 simp only at hi hl ht
 have hg := b3U o7 a i default rfl
 (try refine A2V ?_); simp only [go_sem, a4T, hS0]; (repeat' first | apply CJ.mk | intro hc); all_goals try ((repeat' first | apply And.intro | intro hs) <;> (try simp only [go_sem, Bool.and_eq_false_iff] at hs) <;> omega)
 ·(refine lpK_n2 (⟨(i + 1, L.set i (a.getD i default)), by simp only; omega, by simp [hl], n8 hl ht (by omega)⟩) _ rfl ?_; simp only [go_sem, a4T, hS0]; first | done | ((repeat' apply And.intro) <;> first | omega | (refine w64 ?_ ?_ ?_ <;> omega) | rfl | skip))
 ·obtain rfl := l4 hl ht (by omega)
  rfl
 all_goals trace_state
noncomputable def a2P : CT := o6 (fun (x : (List c9)) h => b3z x h)
@[go_sem] theorem b8N (a : List c9) : a2P [(false, [.sl false [.i .i64 0, .s [], .sl false [.s [], .i .i64 0, .s []] [], .i .i64 0, .s [], .i .i64 0, .s [], .s [], .i .i64 0, .s []] (a.map (c9.cells false false))])] = some ((((a.length + i5 o7 a) : Nat) : Int) ≤ 1048576, [], .one (false, [.sl true [.i .i64 0, .s [], .sl true [.s [], .i .i64 0, .s []] [], .i .i64 0, .s [], .i .i64 0, .s [], .s [], .i .i64 0, .s []] (a.map (c9.cells true true))])) := i3 _ (by intro x y h; simp at h; simp_all) a
theorem a8Z : OkC Tryz.prog 116 a2P := i4 _
def a5s : ACode := q' ([o' 1 (.box 4 (.t 0)), w' 2 [.i .i64, .s, .sl [.s [], .i .i64 0, .s []], .sl [.i .i64 0, .s [], .sl false [.s [], .i .i64 0, .s []] [], .i .i64 0, .s [], .i
 .i64 0, .s [], .s [], .i .i64 0, .s []]]]) (q' ([w' 3 [.i .i64, .s, .sl [.s [], .i .i64 0, .s []], .sl [.i .i64 0, .s [], .sl false [.s [], .i .i64 0, .s []]
 [], .i .i64 0, .s [], .i .i64 0, .s [], .s [], .i .i64 0, .s []]]]) (q' ([f' 4 0 1, l' 5 4, f' 6 0 3, s' 1 6 5]) (q' ([f' 7 1 1, e' 8 2 7, c' 9 115 [8], f' 10
 1 3, s' 2 10 9]) (q' ([f' 11 3 1, l' 12 11, c' 13 116 [12], f' 14 3 3, s' 1 14 13]) (q' ([e' 15 4 3, s' 4 2 15]) .ret)))))
theorem b1Y : cmp Tryz.prog Tryz.f48 = some a5s := by kernel_rfl
theorem b3A (a : c6) (hpre : (m0 a : Int) ≤ 1048576) : A0l Tryz.prog 48 [(true, [.i .i64 a.Kind, .s a.Head.Name, .sl false [.s [], .i .i64 0, .s []] (a.Head.Args.map c4.cells), .sl false [.i .i64 0, .s [], .sl false [.s [], .i .i64 0, .s []] [], .i .i64 0, .s [], .i .i64 0, .s [], .s [], .i .i64 0, .s []] (a.Body.map (c9.cells false false))])] [] (.one (true, [.i .i64 a.Kind, .s a.Head.Name, .sl true [.s [], .i .i64 0, .s []] (a.Head.Args.map c4.cells), .sl true [.i .i64 0, .s [], .sl true [.s [], .i .i64 0, .s []] [], .i .i64 0, .s [], .i .i64 0, .s [], .s [], .i .i64 0, .s []] (a.Body.map (c9.cells true true))])) := by
 refine spec_of2 true false none Tryz.func48 b1Y (rvs := [.c 2 true 4]) (hΓ := mkCtx_ok (deep := true) (l := [(115, [], a0G), (116, [], a2P)]) ⟨a3z, a8Z, trivial⟩) (h := ?_)
 intro hb hE
 simp only [go_sem] at hb
 simp only [a5s, x']
 (try refine A2V ?_); simp only [go_sem]; (repeat' first | apply CJ.mk | intro hc); all_goals try ((repeat' first | apply And.intro | intro hs) <;> (try simp only [go_sem, Bool.and_eq_false_iff] at hs) <;> omega)
 all_goals (simp only [m0] at *; omega)
noncomputable def a2Q : CT := o6 (fun (x : c6) h => b3A x h)
@[go_sem] theorem b8O (x0 : Int) (x1 : List UInt8) (x2 : List c4) (x3 : List c9) : a2Q [(true, [.i .i64 x0, .s x1, .sl false [.s [], .i .i64 0, .s []] (x2.map c4.cells), .sl false [.i .i64 0, .s [], .sl false [.s [], .i .i64 0, .s []] [], .i .i64 0, .s [], .i .i64 0, .s [], .s [], .i .i64 0, .s []] (x3.map (c9.cells false false))])] = some ((m0 (c6.mk x0 (d4.mk x1 x2) x3) : Int) ≤ 1048576, [], .one (true, [.i .i64 ((c6.mk x0 (d4.mk x1 x2) x3).Kind), .s (((c6.mk x0 (d4.mk x1 x2) x3).Head).Name), .sl true [.s [], .i .i64 0, .s []] ((((c6.mk x0 (d4.mk x1 x2) x3).Head).Args).map c4.cells), .sl true [.i .i64 0, .s [], .sl true [.s [], .i .i64 0, .s []] [], .i .i64 0, .s [], .i .i64 0, .s [], .s [], .i .i64 0, .s []] (((c6.mk x0 (d4.mk x1 x2) x3).Body).map (c9.cells true true))])) := i3 _ (by rintro ⟨_, ⟨_, _⟩, _⟩ ⟨_, ⟨_, _⟩, _⟩ h; simp at h; simp_all) (c6.mk x0 (d4.mk x1 x2) x3)
theorem a9a : OkC Tryz.prog 48 a2Q := i4 _
def a4B : ACode := q' ([o' 2 (.mov (.k (.v false [.nl [.i .i64 0, .s [], .sl false [.s [], .i .i64 0, .s []] [], .sl false [.i .i64 0, .s [], .sl false [.s [], .i .i64 0, .s []]
 [], .i .i64 0, .s [], .i .i64 0, .s [], .s [], .i .i64 0, .s []] []]])))]) (q' ([m' 5 0, n' 6 5, o' 7 (.mks 4 72 [.i .i64, .s, .sl [.s [], .i .i64 0, .s []],
 .sl [.i .i64 0, .s [], .sl false [.s [], .i .i64 0, .s []] [], .i .i64 0, .s [], .i .i64 0, .s [], .s [], .i .i64 0, .s []]] (.t 6) (.t 6)), m' 3 7]) (.seq
 (q' ([z' 4 0]) (.block 0 (.loop (.seq (q' ([m' 8 4, m' 9 0, n' 10 9, r' 11 8 10]) (.cond (.t 11) .skip (.exit 0))) (.seq (.block 1 (g' [m' 14 3, m' 15 4, m'
 16 0, m' 17 4, i' 18 4 16 17, e' 19 4 18, c' 20 48 [19], i' 21 4 14 15, s' 4 21 20])) (g' [m' 12 4, a' 13 12, m' 4 13])))))) (q' ([m' 22 3, m' 2 22]) .ret)))
theorem b0F : cmp Tryz.prog Tryz.f65 = some a4B := by kernel_rfl
theorem b2A (a : List c6) (hpre : (((a.length + i5 m0 a) : Nat) : Int) ≤ 1048576) : A0l Tryz.prog 65 [(false, [.sl false [.i .i64 0, .s [], .sl false [.s [], .i .i64 0, .s []] [], .sl false [.i .i64 0, .s [], .sl false [.s [], .i .i64 0, .s []] [], .i .i64 0, .s [], .i .i64 0, .s [], .s [], .i .i64 0, .s []] []] (a.map (c6.cells false false))])] [] (.one (false, [.sl true [.i .i64 0, .s [], .sl true [.s [], .i .i64 0, .s []] [], .sl true [.i .i64 0, .s [], .sl true [.s [], .i .i64 0, .s []] [], .i .i64 0, .s [], .i .i64 0, .s [], .s [], .i .i64 0, .s []] []] (a.map (c6.cells true true))])) := by
 refine spec_of2 true false none Tryz.func65 b0F (rvs := [.t 2]) (hΓ := mkCtx_ok (deep := true) (l := [(48, [], a2Q)]) ⟨a9a, trivial⟩) (h := ?_)
 intro hb hE
 simp only [go_sem] at hb
 simp only [a4B, x']
 (try refine A2V ?_); simp only [go_sem, a2U]; (repeat' first | apply CJ.mk | intro hc); all_goals try ((repeat' first | apply And.intro | intro hs) <;> (try simp only [go_sem, Bool.and_eq_false_iff] at hs) <;> omega)
 refine aw_loop2 true [] [0, 3] [] [] (fun i : {p : Nat × (List c6) // p.1 ≤ a.length ∧ p.2.length = a.length ∧ p.2.take p.1 = a.take p.1} => [(4, slV (.i .i64 i.1.1))]) (fun i => []) (fun i => [(896, [.i .i64 0, .s [], .sl true [.s [], .i .i64 0, .s []] [], .sl true [.i .i64 0, .s [], .sl true [.s [], .i .i64 0, .s []] [], .i .i64 0, .s [], .i .i64 0, .s [], .s [], .i .i64 0, .s []] []], i.1.2.map (c6.cells true true))]) (fun i => a.length - i.1.1) (⟨(0, List.replicate a.length default), by simp⟩) _ rfl ?_ ?_
 ·simp only [go_sem, a2U]
  all_goals first | omega | ((repeat' apply And.intro) <;> first | omega | rfl | skip)
 intro S0 hS0 i
 simp only [go_sem, a2U] at hS0
 obtain ⟨⟨i, L⟩, hi, hl, ht⟩ := i
 simp only at hi hl ht
 have hg := b3U m0 a i default rfl
 (try refine A2V ?_); simp only [go_sem, a2U, hS0]; (repeat' first | apply CJ.mk | intro hc); all_goals try ((repeat' first | apply And.intro | intro hs) <;> (try simp only [go_sem, Bool.and_eq_false_iff] at hs) <;> omega)
 ·(refine lpK_n2 (⟨(i + 1, L.set i (a.getD i default)), by simp only; omega, by simp [hl], n8 hl ht (by omega)⟩) _ rfl ?_; simp only [go_sem, a2U, hS0]; first | done | ((repeat' apply And.intro) <;> first | omega | (refine w64 ?_ ?_ ?_ <;> omega) | rfl | skip))
 ·obtain rfl := l4 hl ht (by omega)
  rfl
 all_goals trace_state
noncomputable def a1U : CT := o6 (fun (x : (List c6)) h => b2A x h)
@[go_sem] theorem b7B (a : List c6) : a1U [(false, [.sl false [.i .i64 0, .s [], .sl false [.s [], .i .i64 0, .s []] [], .sl false [.i .i64 0, .s [], .sl false [.s [], .i .i64 0, .s []] [], .i .i64 0, .s [], .i .i64 0, .s [], .s [], .i .i64 0, .s []] []] (a.map (c6.cells false false))])] = some ((((a.length + i5 m0 a) : Nat) : Int) ≤ 1048576, [], .one (false, [.sl true [.i .i64 0, .s [], .sl true [.s [], .i .i64 0, .s []] [], .sl true [.i .i64 0, .s [], .sl true [.s [], .i .i64 0, .s []] [], .i .i64 0, .s [], .i .i64 0, .s [], .s [], .i .i64 0, .s []] []] (a.map (c6.cells true true))])) := i3 _ (by intro x y h; simp at h; simp_all) a
theorem a7Y : OkC Tryz.prog 65 a1U := i4 _
def a5q : ACode := q' ([o' 1 (.box 3 (.t 0)), w' 2 [.i .i64, .s, .i .i64]]) (q' ([w' 3 [.i .i64, .s, .i .i64]]) (q' ([f' 4 0 1, l' 5 4, f' 6 0 3, s' 1 6 5]) (q' ([f' 7 1 1, l' 8
 7, f' 9 1 3, s' 1 9 8]) (q' ([f' 10 2 1, l' 11 10, f' 12 2 3, s' 1 12 11]) (q' ([e' 13 3 3, s' 3 2 13]) .ret)))))
theorem b1W : cmp Tryz.prog Tryz.f137 = some a5q := by kernel_rfl
theorem b3y (a : c7) : A0l Tryz.prog 137 [(true, [.i .i64 a.Kind, .s a.Name, .i .i64 a.Arity])] [] (.one (true, [.i .i64 a.Kind, .s a.Name, .i .i64 a.Arity])) := by
 refine spec_of2 true false none Tryz.func137 b1W (rvs := [.c 2 true 3]) (hΓ := mkCtx_ok (deep := true) (l := []) trivial) (h := ?_)
 intro hb hE
 simp only [go_sem] at hb
 simp only [a5q, x']
 (try refine A2V ?_); simp only [go_sem]; (repeat' first | apply CJ.mk | intro hc); all_goals try ((repeat' first | apply And.intro | intro hs) <;> (try simp only [go_sem, Bool.and_eq_false_iff] at hs) <;> omega)
noncomputable def a2O : CT := i6 (fun (x : c7) => b3y x)
@[go_sem] theorem b8M (x0 : Int) (x1 : List UInt8) (x2 : Int) : a2O [(true, [.i .i64 x0, .s x1, .i .i64 x2])] = some (True, [], .one (true, [.i .i64 ((c7.mk x0 x1 x2).Kind), .s ((c7.mk x0 x1 x2).Name), .i .i64 ((c7.mk x0 x1 x2).Arity)])) := f7 _ (by rintro ⟨_, _, _⟩ ⟨_, _, _⟩ h; simp at h; simp_all) (c7.mk x0 x1 x2)
theorem a8Y : OkC Tryz.prog 137 a2O := f8 _
def a4A : ACode := q' ([o' 2 (.mov (.k (.v false [.nl [.i .i64 0, .s [], .i .i64 0]])))]) (q' ([m' 5 0, n' 6 5, o' 7 (.mks 3 32 [.i .i64, .s, .i .i64] (.t 6) (.t 6)), m' 3 7])
 (.seq (q' ([z' 4 0]) (.block 0 (.loop (.seq (q' ([m' 8 4, m' 9 0, n' 10 9, r' 11 8 10]) (.cond (.t 11) .skip (.exit 0))) (.seq (.block 1 (g' [m' 14 3, m' 15
 4, m' 16 0, m' 17 4, i' 18 3 16 17, e' 19 3 18, c' 20 137 [19], i' 21 3 14 15, s' 3 21 20])) (g' [m' 12 4, a' 13 12, m' 4 13])))))) (q' ([m' 22 3, m' 2 22])
 .ret)))
theorem b0E : cmp Tryz.prog Tryz.f64 = some a4A := by kernel_rfl
theorem b2z (a : List c7) (hpre : (((a.length + i5 s9 a) : Nat) : Int) ≤ 1048576) : A0l Tryz.prog 64 [(false, [.sl false [.i .i64 0, .s [], .i .i64 0] (a.map c7.cells)])] [] (.one (false, [.sl true [.i .i64 0, .s [], .i .i64 0] (a.map c7.cells)])) := by
 refine spec_of2 true false none Tryz.func64 b0E (rvs := [.t 2]) (hΓ := mkCtx_ok (deep := true) (l := [(137, [], a2O)]) ⟨a8Y, trivial⟩) (h := ?_)
 intro hb hE
 simp only [go_sem] at hb
 simp only [a4A, x']
 (try refine A2V ?_); simp only [go_sem, a2T]; (repeat' first | apply CJ.mk | intro hc); all_goals try ((repeat' first | apply And.intro | intro hs) <;> (try simp only [go_sem, Bool.and_eq_false_iff] at hs) <;> omega)
 refine aw_loop2 true [] [0, 3] [] [] (fun i : {p : Nat × (List c7) // p.1 ≤ a.length ∧ p.2.length = a.length ∧ p.2.take p.1 = a.take p.1} => [(4, slV (.i .i64 i.1.1))]) (fun i => []) (fun i => [(896, [.i .i64 0, .s [], .i .i64 0], i.1.2.map c7.cells)]) (fun i => a.length - i.1.1) (⟨(0, List.replicate a.length default), by simp⟩) _ rfl ?_ ?_
 ·simp only [go_sem, a2T]
  all_goals first | omega | ((repeat' apply And.intro) <;> first | omega | rfl | skip)
 intro S0 hS0 i
 simp only [go_sem, a2T] at hS0
 obtain ⟨⟨i, L⟩, hi, hl, ht⟩ := i
 simp only at hi hl ht
 (try refine A2V ?_); simp only [go_sem, a2T, hS0]; (repeat' first | apply CJ.mk | intro hc); all_goals try ((repeat' first | apply And.intro | intro hs) <;> (try simp only [go_sem, Bool.and_eq_false_iff] at hs) <;> omega)
 ·(refine lpK_n2 (⟨(i + 1, L.set i (a.getD i default)), by simp only; omega, by simp [hl], n8 hl ht (by omega)⟩) _ rfl ?_; simp only [go_sem, a2T, hS0]; first | done | ((repeat' apply And.intro) <;> first | omega | (refine w64 ?_ ?_ ?_ <;> omega) | rfl | skip))
 ·obtain rfl := l4 hl ht (by omega)
  rfl
 all_goals trace_state
noncomputable def a1T : CT := o6 (fun (x : (List c7)) h => b2z x h)
@[go_sem] theorem b7A (a : List c7) : a1T [(false, [.sl false [.i .i64 0, .s [], .i .i64 0] (a.map c7.cells)])] = some ((((a.length + i5 s9 a) : Nat) : Int) ≤ 1048576, [], .one (false, [.sl true [.i .i64 0, .s [], .i .i64 0] (a.map c7.cells)])) := i3 _ (by intro x y h; simp at h; simp_all) a
theorem a7X : OkC Tryz.prog 64 a1T := i4 _
def a2m : ACode := q' ([o' 1 (.box 2 (.t 0)), w' 2 [.sl [.i .i64 0, .s [], .i .i64 0], .sl [.i .i64 0, .s [], .sl false [.s [], .i .i64 0, .s []] [], .sl false [.i .i64 0, .s [],
 .sl false [.s [], .i .i64 0, .s []] [], .i .i64 0, .s [], .i .i64 0, .s [], .s [], .i .i64 0, .s []] []]]]) (q' ([w' 3 [.sl [.i .i64 0, .s [], .i .i64 0], .sl
 [.i .i64 0, .s [], .sl false [.s [], .i .i64 0, .s []] [], .sl false [.i .i64 0, .s [], .sl false [.s [], .i .i64 0, .s []] [], .i .i64 0, .s [], .i .i64 0,
 .s [], .s [], .i .i64 0, .s []] []]]]) (q' ([f' 4 0 1, l' 5 4, c' 6 64 [5], f' 7 0 3, s' 1 7 6]) (q' ([f' 8 1 1, l' 9 8, c' 10 65 [9], f' 11 1 3, s' 1 11 10])
 (q' ([e' 12 2 3, s' 2 2 12]) .ret))))
theorem a8m : cmp Tryz.prog Tryz.f14 = some a2m := by kernel_rfl
theorem a9E (a : c8) (hpre : (t6 a : Int) ≤ 1048576) : A0l Tryz.prog 14 [(true, [.sl false [.i .i64 0, .s [], .i .i64 0] (a.Decls.map c7.cells), .sl false [.i .i64 0, .s [], .sl false [.s [], .i .i64 0, .s []] [], .sl false [.i .i64 0, .s [], .sl false [.s [], .i .i64 0, .s []] [], .i .i64 0, .s [], .i .i64 0, .s [], .s [], .i .i64 0, .s []] []] (a.Rules.map (c6.cells false false))])] [] (.one (true, [.sl true [.i .i64 0, .s [], .i .i64 0] (a.Decls.map c7.cells), .sl true [.i .i64 0, .s [], .sl true [.s [], .i .i64 0, .s []] [], .sl true [.i .i64 0, .s [], .sl true [.s [], .i .i64 0, .s []] [], .i .i64 0, .s [], .i .i64 0, .s [], .s [], .i .i64 0, .s []] []] (a.Rules.map (c6.cells true true))])) := by
 refine spec_of2 true false none Tryz.func14 a8m (rvs := [.c 2 true 2]) (hΓ := mkCtx_ok (deep := true) (l := [(64, [], a1T), (65, [], a1U)]) ⟨a7X, a7Y, trivial⟩) (h := ?_)
 intro hb hE
 simp only [go_sem] at hb
 simp only [a2m, x']
 (try refine A2V ?_); simp only [go_sem]; (repeat' first | apply CJ.mk | intro hc); all_goals try ((repeat' first | apply And.intro | intro hs) <;> (try simp only [go_sem, Bool.and_eq_false_iff] at hs) <;> omega)
 all_goals (simp only [t6] at *; omega)
noncomputable def a0m : CT := o6 (fun (x : c8) h => a9E x h)
@[go_sem] theorem b5U (x0 : List c7) (x1 : List c6) : a0m [(true, [.sl false [.i .i64 0, .s [], .i .i64 0] (x0.map c7.cells), .sl false [.i .i64 0, .s [], .sl false [.s [], .i .i64 0, .s []] [], .sl false [.i .i64 0, .s [], .sl false [.s [], .i .i64 0, .s []] [], .i .i64 0, .s [], .i .i64 0, .s [], .s [], .i .i64 0, .s []] []] (x1.map (c6.cells false false))])] = some ((t6 (c8.mk x0 x1) : Int) ≤ 1048576, [], .one (true, [.sl true [.i .i64 0, .s [], .i .i64 0] (((c8.mk x0 x1).Decls).map c7.cells), .sl true [.i .i64 0, .s [], .sl true [.s [], .i .i64 0, .s []] [], .sl true [.i .i64 0, .s [], .sl true [.s [], .i .i64 0, .s []] [], .i .i64 0, .s [], .i .i64 0, .s [], .s [], .i .i64 0, .s []] []] (((c8.mk x0 x1).Rules).map (c6.cells true true))])) := i3 _ (by rintro ⟨_, _⟩ ⟨_, _⟩ h; simp at h; simp_all) (c8.mk x0 x1)
theorem a6n : OkC Tryz.prog 14 a0m := i4 _
def a5e : ACode := q' ([o' 2 (.box 2 (.t 0)), o' 3 (.box 2 (.t 1)), b' 4 false]) (.seq (q' ([f' 5 0 2, l' 6 5, f' 7 0 3, l' 8 7, o' 9 (.bin .neq (.t 6) (.t 8))]) (.cond (.t 9) (q'
 ([b' 4 false]) .ret) .skip)) (.seq (q' ([f' 10 1 2, l' 11 10, f' 12 1 3, l' 13 12, c' 14 205 [11, 13], o' 15 (.not (.t 14))]) (.cond (.t 15) (q' ([b' 4
 false]) .ret) .skip)) (q' ([b' 4 true]) .ret)))
theorem b1K : cmp Tryz.prog Tryz.f122 = some a5e := by kernel_rfl
theorem b3m (a : d4) (b : d4) : A0l Tryz.prog 122 [(true, [.s a.Name, .sl false [.s [], .i .i64 0, .s []] (a.Args.map c4.cells)]), (true, [.s b.Name, .sl false [.s [], .i .i64 0, .s []] (b.Args.map c4.cells)])] [] (.one (false, [.b (decide (a = b))])) := by
 refine spec_of2 false false none Tryz.func122 b1K (rvs := [.t 4]) (hΓ := mkCtx_ok (deep := false) (l := [(205, [], a1O)]) ⟨a7S, trivial⟩) (h := ?_)
 intro hb hE
 simp only [go_sem] at hb
 simp only [a5e, x']
 (try refine A2V ?_); simp only [go_sem]; (repeat' first | apply CJ.mk | intro hc); all_goals try ((repeat' first | apply And.intro | intro hs) <;> (try simp only [go_sem, Bool.and_eq_false_iff] at hs) <;> omega)
 all_goals (cases a; cases b; simp_all)
noncomputable def a0C : CT := i6 (fun (x : d4 × d4) => b3m x.1 x.2)
@[go_sem] theorem b8A (x0 : List UInt8) (x1 : List c4) (x2 : List UInt8) (x3 : List c4) : a0C [(true, [.s x0, .sl false [.s [], .i .i64 0, .s []] (x1.map c4.cells)]), (true, [.s x2, .sl false [.s [], .i .i64 0, .s []] (x3.map c4.cells)])] = some (True, [], .one (false, [.b (decide ((d4.mk x0 x1) = (d4.mk x2 x3)))])) := f7 _ (by rintro ⟨⟨_, _⟩, ⟨_, _⟩⟩ ⟨⟨_, _⟩, ⟨_, _⟩⟩ h; simp at h; simp_all) ((d4.mk x0 x1), (d4.mk x2 x3))
theorem a3v : OkC Tryz.prog 122 a0C := f8 _
def a6D : ACode := q' ([o' 2 (.box 10 (.t 0)), o' 3 (.box 10 (.t 1)), b' 4 false]) (.seq (q' ([f' 5 0 2, l' 6 5, f' 7 0 3, l' 8 7, o' 9 (.bin .neq (.t 6) (.t 8))]) (.cond (.t 9)
 (q' ([b' 4 false]) .ret) .skip)) (.seq (q' ([f' 10 1 2, e' 11 2 10, f' 12 1 3, e' 13 2 12, c' 14 122 [11, 13], o' 15 (.not (.t 14))]) (.cond (.t 15) (q' ([b'
 4 false]) .ret) .skip)) (.seq (q' ([f' 16 3 2, l' 17 16, f' 18 3 3, l' 19 18, o' 20 (.bin .neq (.t 17) (.t 19))]) (.cond (.t 20) (q' ([b' 4 false]) .ret)
 .skip)) (.seq (q' ([f' 21 4 2, e' 22 3 21, f' 23 4 3, e' 24 3 23, c' 25 289 [22, 24], o' 26 (.not (.t 25))]) (.cond (.t 26) (q' ([b' 4 false]) .ret) .skip))
 (.seq (q' ([f' 27 7 2, e' 28 3 27, f' 29 7 3, e' 30 3 29, c' 31 289 [28, 30], o' 32 (.not (.t 31))]) (.cond (.t 32) (q' ([b' 4 false]) .ret) .skip)) (q' ([b'
 4 true]) .ret))))))
theorem b2V : cmp Tryz.prog Tryz.f206 = some a6D := by kernel_rfl
theorem b4B (a : c9) (b : c9) : A0l Tryz.prog 206 [(true, [.i .i64 a.Kind, .s a.Atom.Name, .sl false [.s [], .i .i64 0, .s []] (a.Atom.Args.map c4.cells), .i .i64 a.Op, .s a.A.Var, .i .i64 a.A.Val.N, .s a.A.Val.S, .s a.B.Var, .i .i64 a.B.Val.N, .s a.B.Val.S]), (true, [.i .i64 b.Kind, .s b.Atom.Name, .sl false [.s [], .i .i64 0, .s []] (b.Atom.Args.map c4.cells), .i .i64 b.Op, .s b.A.Var, .i .i64 b.A.Val.N, .s b.A.Val.S, .s b.B.Var, .i .i64 b.B.Val.N, .s b.B.Val.S])] [] (.one (false, [.b (decide (a = b))])) := by
 refine spec_of2 false false none Tryz.func206 b2V (rvs := [.t 4]) (hΓ := mkCtx_ok (deep := false) (l := [(122, [], a0C), (289, [], a0D)]) ⟨a3v, a3w, trivial⟩) (h := ?_)
 intro hb hE
 simp only [go_sem] at hb
 simp only [a6D, x']
 (try refine A2V ?_); simp only [go_sem]; (repeat' first | apply CJ.mk | intro hc); all_goals try ((repeat' first | apply And.intro | intro hs) <;> (try simp only [go_sem, Bool.and_eq_false_iff] at hs) <;> omega)
 all_goals (cases a; cases b; simp_all)
noncomputable def a3T : CT := i6 (fun (x : c9 × c9) => b4B x.1 x.2)
@[go_sem] theorem b9j (x0 : Int) (x1 : List UInt8) (x2 : List c4) (x3 : Int) (x4 : List UInt8) (x5 : Int) (x6 x7 : List UInt8) (x8 : Int) (x9 : List UInt8) (x10 : Int) (x11 : List UInt8) (x12 : List c4) (x13 : Int) (x14 : List UInt8) (x15 : Int) (x16 x17 : List UInt8) (x18 : Int) (x19 : List UInt8) : a3T [(true, [.i .i64 x0, .s x1, .sl false [.s [], .i .i64 0, .s []] (x2.map c4.cells), .i .i64 x3, .s x4, .i .i64 x5, .s x6, .s x7, .i .i64 x8, .s x9]), (true, [.i .i64 x10, .s x11, .sl false [.s [], .i .i64 0, .s []] (x12.map c4.cells), .i .i64 x13, .s x14, .i .i64 x15, .s x16, .s x17, .i .i64 x18, .s x19])] = some (True, [], .one (false, [.b (decide ((c9.mk x0 (d4.mk x1 x2) x3 (c4.mk x4 (d5.mk x5 x6)) (c4.mk x7 (d5.mk x8 x9))) = (c9.mk x10 (d4.mk x11 x12) x13 (c4.mk x14 (d5.mk x15 x16)) (c4.mk x17 (d5.mk x18 x19)))))])) := f7 _ (by rintro ⟨⟨_, ⟨_, _⟩, _, ⟨_, ⟨_, _⟩⟩, ⟨_, ⟨_, _⟩⟩⟩, ⟨_, ⟨_, _⟩, _, ⟨_, ⟨_, _⟩⟩, ⟨_, ⟨_, _⟩⟩⟩⟩ ⟨⟨_, ⟨_, _⟩, _, ⟨_, ⟨_, _⟩⟩, ⟨_, ⟨_, _⟩⟩⟩, ⟨_, ⟨_, _⟩, _, ⟨_, ⟨_, _⟩⟩, ⟨_, ⟨_, _⟩⟩⟩⟩ h; simp at h; simp_all) ((c9.mk x0 (d4.mk x1 x2) x3 (c4.mk x4 (d5.mk x5 x6)) (c4.mk x7 (d5.mk x8 x9))), (c9.mk x10 (d4.mk x11 x12) x13 (c4.mk x14 (d5.mk x15 x16)) (c4.mk x17 (d5.mk x18 x19))))
theorem b0i : OkC Tryz.prog 206 a3T := f8 _
def a5g : ACode := q' ([b' 4 false]) (.seq (q' ([m' 6 0, n' 7 6, m' 8 1, n' 9 8, o' 10 (.bin .neq (.t 7) (.t 9))]) (.cond (.t 10) (q' ([b' 4 false]) .ret) .skip)) (.seq (q' ([z' 5
 0]) (.block 0 (.loop (.seq (q' ([m' 11 5, m' 12 0, n' 13 12, r' 14 11 13]) (.cond (.t 14) .skip (.exit 0))) (.seq (.block 1 (.seq (.reg true [m' 17 0, m' 18
 5, i' 19 10 17 18, e' 20 10 19, m' 21 1, m' 22 5, i' 23 10 21 22, e' 24 10 23, c' 25 206 [20, 24], o' 26 (.not (.t 25))]) (.cond (.t 26) (q' ([b' 4 false])
 .ret) .skip))) (g' [m' 15 5, a' 16 15, m' 5 16])))))) (q' ([b' 4 true]) .ret)))
theorem b1M : cmp Tryz.prog Tryz.f123 = some a5g := by kernel_rfl
theorem b3o (a : List c9) (b : List c9) : A0l Tryz.prog 123 [(false, [.sl false [.i .i64 0, .s [], .sl false [.s [], .i .i64 0, .s []] [], .i .i64 0, .s [], .i .i64 0, .s [], .s [], .i .i64 0, .s []] (a.map (c9.cells false false))]), (false, [.sl false [.i .i64 0, .s [], .sl false [.s [], .i .i64 0, .s []] [], .i .i64 0, .s [], .i .i64 0, .s [], .s [], .i .i64 0, .s []] (b.map (c9.cells false false))])] [] (.one (false, [.b (decide (a = b))])) := by
 refine spec_of2 false false none Tryz.func123 b1M (rvs := [.t 4]) (hΓ := mkCtx_ok (deep := false) (l := [(206, [], a3T)]) ⟨b0i, trivial⟩) (h := ?_)
 intro hb hE
 simp only [go_sem] at hb
 simp only [a5g, x']
 (try refine A2V ?_); simp only [go_sem]; (repeat' first | apply CJ.mk | intro hc); all_goals try ((repeat' first | apply And.intro | intro hs) <;> (try simp only [go_sem, Bool.and_eq_false_iff] at hs) <;> omega)
 ·symm
  rw [decide_eq_false_iff_not]
  rintro rfl
  simp at hc
 have hl : a.length = b.length := by simpa [Int.ofNat_inj] using hc
 refine aw_loop2 false [] [0, 1] [] [] (fun i : {i : Nat // i ≤ a.length ∧ a.take i = b.take i} => [(5, slV (.i .i64 i.1))]) (fun i => []) (fun i => []) (fun i => a.length - i.1) (⟨0, by simp⟩) _ rfl ?_ ?_
 ·simp only [go_sem]
  all_goals first | omega | ((repeat' apply And.intro) <;> first | omega | rfl | skip)
 intro S0 hS0 i
 simp only [go_sem] at hS0
 obtain ⟨i, hi, ht⟩ := i
 (try refine A2V ?_); simp only [go_sem, hS0]; (repeat' first | apply CJ.mk | intro hc); all_goals try ((repeat' first | apply And.intro | intro hs) <;> (try simp only [go_sem, Bool.and_eq_false_iff] at hs) <;> omega)
 ·exact (decide_eq_false (w8 default (i := i) (by simpa using hc))).symm
 ·(refine lpK_n2 (⟨i + 1, by omega, s6 ht (by omega) (by omega) (d := default) (by simpa using hc)⟩) _ rfl ?_; simp only [go_sem, hS0]; first | done | ((repeat' apply And.intro) <;> first | omega | (refine w64 ?_ ?_ ?_ <;> omega) | rfl | skip))
 ·exact (decide_eq_true (l4 hl ht (by omega))).symm
 all_goals trace_state
noncomputable def a2I : CT := i6 (fun (x : (List c9) × (List c9)) => b3o x.1 x.2)
@[go_sem] theorem b8C (a b : List c9) : a2I [(false, [.sl false [.i .i64 0, .s [], .sl false [.s [], .i .i64 0, .s []] [], .i .i64 0, .s [], .i .i64 0, .s [], .s [], .i .i64 0, .s []] (a.map (c9.cells false false))]), (false, [.sl false [.i .i64 0, .s [], .sl false [.s [], .i .i64 0, .s []] [], .i .i64 0, .s [], .i .i64 0, .s [], .s [], .i .i64 0, .s []] (b.map (c9.cells false false))])] = some (True, [], .one (false, [.b (decide (a = b))])) := f7 _ (by rintro ⟨_, _⟩ ⟨_, _⟩ h; simp at h; simp_all) (a, b)
theorem a8S : OkC Tryz.prog 123 a2I := f8 _
def a5i : ACode := q' ([o' 2 (.box 4 (.t 0)), o' 3 (.box 4 (.t 1)), b' 4 false]) (.seq (q' ([f' 5 0 2, l' 6 5, f' 7 0 3, l' 8 7, o' 9 (.bin .neq (.t 6) (.t 8))]) (.cond (.t 9) (q'
 ([b' 4 false]) .ret) .skip)) (.seq (q' ([f' 10 1 2, e' 11 2 10, f' 12 1 3, e' 13 2 12, c' 14 122 [11, 13], o' 15 (.not (.t 14))]) (.cond (.t 15) (q' ([b' 4
 false]) .ret) .skip)) (.seq (q' ([f' 16 3 2, l' 17 16, f' 18 3 3, l' 19 18, c' 20 123 [17, 19], o' 21 (.not (.t 20))]) (.cond (.t 21) (q' ([b' 4 false]) .ret)
 .skip)) (q' ([b' 4 true]) .ret))))
theorem b1O : cmp Tryz.prog Tryz.f51 = some a5i := by kernel_rfl
theorem b3q (a : c6) (b : c6) : A0l Tryz.prog 51 [(true, [.i .i64 a.Kind, .s a.Head.Name, .sl false [.s [], .i .i64 0, .s []] (a.Head.Args.map c4.cells), .sl false [.i .i64 0, .s [], .sl false [.s [], .i .i64 0, .s []] [], .i .i64 0, .s [], .i .i64 0, .s [], .s [], .i .i64 0, .s []] (a.Body.map (c9.cells false false))]), (true, [.i .i64 b.Kind, .s b.Head.Name, .sl false [.s [], .i .i64 0, .s []] (b.Head.Args.map c4.cells), .sl false [.i .i64 0, .s [], .sl false [.s [], .i .i64 0, .s []] [], .i .i64 0, .s [], .i .i64 0, .s [], .s [], .i .i64 0, .s []] (b.Body.map (c9.cells false false))])] [] (.one (false, [.b (decide (a = b))])) := by
 refine spec_of2 false false none Tryz.func51 b1O (rvs := [.t 4]) (hΓ := mkCtx_ok (deep := false) (l := [(122, [], a0C), (123, [], a2I)]) ⟨a3v, a8S, trivial⟩) (h := ?_)
 intro hb hE
 simp only [go_sem] at hb
 simp only [a5i, x']
 (try refine A2V ?_); simp only [go_sem]; (repeat' first | apply CJ.mk | intro hc); all_goals try ((repeat' first | apply And.intro | intro hs) <;> (try simp only [go_sem, Bool.and_eq_false_iff] at hs) <;> omega)
 all_goals (cases a; cases b; simp_all)
noncomputable def a2K : CT := i6 (fun (x : c6 × c6) => b3q x.1 x.2)
@[go_sem] theorem b8E (x0 : Int) (x1 : List UInt8) (x2 : List c4) (x3 : List c9) (x4 : Int) (x5 : List UInt8) (x6 : List c4) (x7 : List c9) : a2K [(true, [.i .i64 x0, .s x1, .sl false [.s [], .i .i64 0, .s []] (x2.map c4.cells), .sl false [.i .i64 0, .s [], .sl false [.s [], .i .i64 0, .s []] [], .i .i64 0, .s [], .i .i64 0, .s [], .s [], .i .i64 0, .s []] (x3.map (c9.cells false false))]), (true, [.i .i64 x4, .s x5, .sl false [.s [], .i .i64 0, .s []] (x6.map c4.cells), .sl false [.i .i64 0, .s [], .sl false [.s [], .i .i64 0, .s []] [], .i .i64 0, .s [], .i .i64 0, .s [], .s [], .i .i64 0, .s []] (x7.map (c9.cells false false))])] = some (True, [], .one (false, [.b (decide ((c6.mk x0 (d4.mk x1 x2) x3) = (c6.mk x4 (d4.mk x5 x6) x7)))])) := f7 _ (by rintro ⟨⟨_, ⟨_, _⟩, _⟩, ⟨_, ⟨_, _⟩, _⟩⟩ ⟨⟨_, ⟨_, _⟩, _⟩, ⟨_, ⟨_, _⟩, _⟩⟩ h; simp at h; simp_all) ((c6.mk x0 (d4.mk x1 x2) x3), (c6.mk x4 (d4.mk x5 x6) x7))
theorem a8U : OkC Tryz.prog 51 a2K := f8 _
def a4s : ACode := q' ([b' 4 false]) (.seq (q' ([m' 6 0, n' 7 6, m' 8 1, n' 9 8, o' 10 (.bin .neq (.t 7) (.t 9))]) (.cond (.t 10) (q' ([b' 4 false]) .ret) .skip)) (.seq (q' ([z' 5
 0]) (.block 0 (.loop (.seq (q' ([m' 11 5, m' 12 0, n' 13 12, r' 14 11 13]) (.cond (.t 14) .skip (.exit 0))) (.seq (.block 1 (.seq (.reg true [m' 17 0, m' 18
 5, i' 19 4 17 18, e' 20 4 19, m' 21 1, m' 22 5, i' 23 4 21 22, e' 24 4 23, c' 25 51 [20, 24], o' 26 (.not (.t 25))]) (.cond (.t 26) (q' ([b' 4 false]) .ret)
 .skip))) (g' [m' 15 5, a' 16 15, m' 5 16])))))) (q' ([b' 4 true]) .ret)))
theorem b0w : cmp Tryz.prog Tryz.f70 = some a4s := by kernel_rfl
theorem b2r (a : List c6) (b : List c6) : A0l Tryz.prog 70 [(false, [.sl false [.i .i64 0, .s [], .sl false [.s [], .i .i64 0, .s []] [], .sl false [.i .i64 0, .s [], .sl false [.s [], .i .i64 0, .s []] [], .i .i64 0, .s [], .i .i64 0, .s [], .s [], .i .i64 0, .s []] []] (a.map (c6.cells false false))]), (false, [.sl false [.i .i64 0, .s [], .sl false [.s [], .i .i64 0, .s []] [], .sl false [.i .i64 0, .s [], .sl false [.s [], .i .i64 0, .s []] [], .i .i64 0, .s [], .i .i64 0, .s [], .s [], .i .i64 0, .s []] []] (b.map (c6.cells false false))])] [] (.one (false, [.b (decide (a = b))])) := by
 refine spec_of2 false false none Tryz.func70 b0w (rvs := [.t 4]) (hΓ := mkCtx_ok (deep := false) (l := [(51, [], a2K)]) ⟨a8U, trivial⟩) (h := ?_)
 intro hb hE
 simp only [go_sem] at hb
 simp only [a4s, x']
 (try refine A2V ?_); simp only [go_sem]; (repeat' first | apply CJ.mk | intro hc); all_goals try ((repeat' first | apply And.intro | intro hs) <;> (try simp only [go_sem, Bool.and_eq_false_iff] at hs) <;> omega)
 ·symm
  rw [decide_eq_false_iff_not]
  rintro rfl
  simp at hc
 have hl : a.length = b.length := by simpa [Int.ofNat_inj] using hc
 refine aw_loop2 false [] [0, 1] [] [] (fun i : {i : Nat // i ≤ a.length ∧ a.take i = b.take i} => [(5, slV (.i .i64 i.1))]) (fun i => []) (fun i => []) (fun i => a.length - i.1) (⟨0, by simp⟩) _ rfl ?_ ?_
 ·simp only [go_sem]
  all_goals first | omega | ((repeat' apply And.intro) <;> first | omega | rfl | skip)
 intro S0 hS0 i
 simp only [go_sem] at hS0
 obtain ⟨i, hi, ht⟩ := i
 (try refine A2V ?_); simp only [go_sem, hS0]; (repeat' first | apply CJ.mk | intro hc); all_goals try ((repeat' first | apply And.intro | intro hs) <;> (try simp only [go_sem, Bool.and_eq_false_iff] at hs) <;> omega)
 ·exact (decide_eq_false (w8 default (i := i) (by simpa using hc))).symm
 ·(refine lpK_n2 (⟨i + 1, by omega, s6 ht (by omega) (by omega) (d := default) (by simpa using hc)⟩) _ rfl ?_; simp only [go_sem, hS0]; first | done | ((repeat' apply And.intro) <;> first | omega | (refine w64 ?_ ?_ ?_ <;> omega) | rfl | skip))
 ·exact (decide_eq_true (l4 hl ht (by omega))).symm
 all_goals trace_state
noncomputable def a1M : CT := i6 (fun (x : (List c6) × (List c6)) => b2r x.1 x.2)
@[go_sem] theorem b7s (a b : List c6) : a1M [(false, [.sl false [.i .i64 0, .s [], .sl false [.s [], .i .i64 0, .s []] [], .sl false [.i .i64 0, .s [], .sl false [.s [], .i .i64 0, .s []] [], .i .i64 0, .s [], .i .i64 0, .s [], .s [], .i .i64 0, .s []] []] (a.map (c6.cells false false))]), (false, [.sl false [.i .i64 0, .s [], .sl false [.s [], .i .i64 0, .s []] [], .sl false [.i .i64 0, .s [], .sl false [.s [], .i .i64 0, .s []] [], .i .i64 0, .s [], .i .i64 0, .s [], .s [], .i .i64 0, .s []] []] (b.map (c6.cells false false))])] = some (True, [], .one (false, [.b (decide (a = b))])) := f7 _ (by rintro ⟨_, _⟩ ⟨_, _⟩ h; simp at h; simp_all) (a, b)
theorem a7Q : OkC Tryz.prog 70 a1M := f8 _
def a5f : ACode := q' ([o' 2 (.box 3 (.t 0)), o' 3 (.box 3 (.t 1)), b' 4 false]) (.seq (q' ([f' 5 0 2, l' 6 5, f' 7 0 3, l' 8 7, o' 9 (.bin .neq (.t 6) (.t 8))]) (.cond (.t 9) (q'
 ([b' 4 false]) .ret) .skip)) (.seq (q' ([f' 10 1 2, l' 11 10, f' 12 1 3, l' 13 12, o' 14 (.bin .neq (.t 11) (.t 13))]) (.cond (.t 14) (q' ([b' 4 false]) .ret)
 .skip)) (.seq (q' ([f' 15 2 2, l' 16 15, f' 17 2 3, l' 18 17, o' 19 (.bin .neq (.t 16) (.t 18))]) (.cond (.t 19) (q' ([b' 4 false]) .ret) .skip)) (q' ([b' 4
 true]) .ret))))
theorem b1L : cmp Tryz.prog Tryz.f144 = some a5f := by kernel_rfl
theorem b3n (a : c7) (b : c7) : A0l Tryz.prog 144 [(true, [.i .i64 a.Kind, .s a.Name, .i .i64 a.Arity]), (true, [.i .i64 b.Kind, .s b.Name, .i .i64 b.Arity])] [] (.one (false, [.b (decide (a = b))])) := by
 refine spec_of2 false false none Tryz.func144 b1L (rvs := [.t 4]) (hΓ := mkCtx_ok (deep := false) (l := []) trivial) (h := ?_)
 intro hb hE
 simp only [go_sem] at hb
 simp only [a5f, x']
 (try refine A2V ?_); simp only [go_sem]; (repeat' first | apply CJ.mk | intro hc); all_goals try ((repeat' first | apply And.intro | intro hs) <;> (try simp only [go_sem, Bool.and_eq_false_iff] at hs) <;> omega)
 all_goals (cases a; cases b; simp_all)
noncomputable def a2H : CT := i6 (fun (x : c7 × c7) => b3n x.1 x.2)
@[go_sem] theorem b8B (x0 : Int) (x1 : List UInt8) (x2 x3 : Int) (x4 : List UInt8) (x5 : Int) : a2H [(true, [.i .i64 x0, .s x1, .i .i64 x2]), (true, [.i .i64 x3, .s x4, .i .i64 x5])] = some (True, [], .one (false, [.b (decide ((c7.mk x0 x1 x2) = (c7.mk x3 x4 x5)))])) := f7 _ (by rintro ⟨⟨_, _, _⟩, ⟨_, _, _⟩⟩ ⟨⟨_, _, _⟩, ⟨_, _, _⟩⟩ h; simp at h; simp_all) ((c7.mk x0 x1 x2), (c7.mk x3 x4 x5))
theorem a8R : OkC Tryz.prog 144 a2H := f8 _
def a4q : ACode := q' ([b' 4 false]) (.seq (q' ([m' 6 0, n' 7 6, m' 8 1, n' 9 8, o' 10 (.bin .neq (.t 7) (.t 9))]) (.cond (.t 10) (q' ([b' 4 false]) .ret) .skip)) (.seq (q' ([z' 5
 0]) (.block 0 (.loop (.seq (q' ([m' 11 5, m' 12 0, n' 13 12, r' 14 11 13]) (.cond (.t 14) .skip (.exit 0))) (.seq (.block 1 (.seq (.reg true [m' 17 0, m' 18
 5, i' 19 3 17 18, e' 20 3 19, m' 21 1, m' 22 5, i' 23 3 21 22, e' 24 3 23, c' 25 144 [20, 24], o' 26 (.not (.t 25))]) (.cond (.t 26) (q' ([b' 4 false]) .ret)
 .skip))) (g' [m' 15 5, a' 16 15, m' 5 16])))))) (q' ([b' 4 true]) .ret)))
theorem b0u : cmp Tryz.prog Tryz.f69 = some a4q := by kernel_rfl
theorem b2p (a : List c7) (b : List c7) : A0l Tryz.prog 69 [(false, [.sl false [.i .i64 0, .s [], .i .i64 0] (a.map c7.cells)]), (false, [.sl false [.i .i64 0, .s [], .i .i64 0] (b.map c7.cells)])] [] (.one (false, [.b (decide (a = b))])) := by
 refine spec_of2 false false none Tryz.func69 b0u (rvs := [.t 4]) (hΓ := mkCtx_ok (deep := false) (l := [(144, [], a2H)]) ⟨a8R, trivial⟩) (h := ?_)
 intro hb hE
 simp only [go_sem] at hb
 simp only [a4q, x']
 (try refine A2V ?_); simp only [go_sem]; (repeat' first | apply CJ.mk | intro hc); all_goals try ((repeat' first | apply And.intro | intro hs) <;> (try simp only [go_sem, Bool.and_eq_false_iff] at hs) <;> omega)
 ·symm
  rw [decide_eq_false_iff_not]
  rintro rfl
  simp at hc
 have hl : a.length = b.length := by simpa [Int.ofNat_inj] using hc
 refine aw_loop2 false [] [0, 1] [] [] (fun i : {i : Nat // i ≤ a.length ∧ a.take i = b.take i} => [(5, slV (.i .i64 i.1))]) (fun i => []) (fun i => []) (fun i => a.length - i.1) (⟨0, by simp⟩) _ rfl ?_ ?_
 ·simp only [go_sem]
  all_goals first | omega | ((repeat' apply And.intro) <;> first | omega | rfl | skip)
 intro S0 hS0 i
 simp only [go_sem] at hS0
 obtain ⟨i, hi, ht⟩ := i
 (try refine A2V ?_); simp only [go_sem, hS0]; (repeat' first | apply CJ.mk | intro hc); all_goals try ((repeat' first | apply And.intro | intro hs) <;> (try simp only [go_sem, Bool.and_eq_false_iff] at hs) <;> omega)
 ·exact (decide_eq_false (w8 default (i := i) (by simpa using hc))).symm
 ·(refine lpK_n2 (⟨i + 1, by omega, s6 ht (by omega) (by omega) (d := default) (by simpa using hc)⟩) _ rfl ?_; simp only [go_sem, hS0]; first | done | ((repeat' apply And.intro) <;> first | omega | (refine w64 ?_ ?_ ?_ <;> omega) | rfl | skip))
 ·exact (decide_eq_true (l4 hl ht (by omega))).symm
 all_goals trace_state
noncomputable def a1K : CT := i6 (fun (x : (List c7) × (List c7)) => b2p x.1 x.2)
@[go_sem] theorem b7q (a b : List c7) : a1K [(false, [.sl false [.i .i64 0, .s [], .i .i64 0] (a.map c7.cells)]), (false, [.sl false [.i .i64 0, .s [], .i .i64 0] (b.map c7.cells)])] = some (True, [], .one (false, [.b (decide (a = b))])) := f7 _ (by rintro ⟨_, _⟩ ⟨_, _⟩ h; simp at h; simp_all) (a, b)
theorem a7O : OkC Tryz.prog 69 a1K := f8 _
def a2f : ACode := q' ([o' 2 (.box 2 (.t 0)), o' 3 (.box 2 (.t 1)), b' 4 false]) (.seq (q' ([f' 5 0 2, l' 6 5, f' 7 0 3, l' 8 7, c' 9 69 [6, 8], o' 10 (.not (.t 9))]) (.cond (.t
 10) (q' ([b' 4 false]) .ret) .skip)) (.seq (q' ([f' 11 1 2, l' 12 11, f' 13 1 3, l' 14 13, c' 15 70 [12, 14], o' 16 (.not (.t 15))]) (.cond (.t 16) (q' ([b' 4
 false]) .ret) .skip)) (q' ([b' 4 true]) .ret)))
theorem a8f : cmp Tryz.prog Tryz.f17 = some a2f := by kernel_rfl
theorem a9z (a : c8) (b : c8) : A0l Tryz.prog 17 [(true, [.sl false [.i .i64 0, .s [], .i .i64 0] (a.Decls.map c7.cells), .sl false [.i .i64 0, .s [], .sl false [.s [], .i .i64 0, .s []] [], .sl false [.i .i64 0, .s [], .sl false [.s [], .i .i64 0, .s []] [], .i .i64 0, .s [], .i .i64 0, .s [], .s [], .i .i64 0, .s []] []] (a.Rules.map (c6.cells false false))]), (true, [.sl false [.i .i64 0, .s [], .i .i64 0] (b.Decls.map c7.cells), .sl false [.i .i64 0, .s [], .sl false [.s [], .i .i64 0, .s []] [], .sl false [.i .i64 0, .s [], .sl false [.s [], .i .i64 0, .s []] [], .i .i64 0, .s [], .i .i64 0, .s [], .s [], .i .i64 0, .s []] []] (b.Rules.map (c6.cells false false))])] [] (.one (false, [.b (decide (a = b))])) := by
 refine spec_of2 false false none Tryz.func17 a8f (rvs := [.t 4]) (hΓ := mkCtx_ok (deep := false) (l := [(69, [], a1K), (70, [], a1M)]) ⟨a7O, a7Q, trivial⟩) (h := ?_)
 intro hb hE
 simp only [go_sem] at hb
 simp only [a2f, x']
 (try refine A2V ?_); simp only [go_sem]; (repeat' first | apply CJ.mk | intro hc); all_goals try ((repeat' first | apply And.intro | intro hs) <;> (try simp only [go_sem, Bool.and_eq_false_iff] at hs) <;> omega)
 all_goals (cases a; cases b; simp_all)
noncomputable def a0i : CT := i6 (fun (x : c8 × c8) => a9z x.1 x.2)
@[go_sem] theorem b5P (x0 : List c7) (x1 : List c6) (x2 : List c7) (x3 : List c6) : a0i [(true, [.sl false [.i .i64 0, .s [], .i .i64 0] (x0.map c7.cells), .sl false [.i .i64 0, .s [], .sl false [.s [], .i .i64 0, .s []] [], .sl false [.i .i64 0, .s [], .sl false [.s [], .i .i64 0, .s []] [], .i .i64 0, .s [], .i .i64 0, .s [], .s [], .i .i64 0, .s []] []] (x1.map (c6.cells false false))]), (true, [.sl false [.i .i64 0, .s [], .i .i64 0] (x2.map c7.cells), .sl false [.i .i64 0, .s [], .sl false [.s [], .i .i64 0, .s []] [], .sl false [.i .i64 0, .s [], .sl false [.s [], .i .i64 0, .s []] [], .i .i64 0, .s [], .i .i64 0, .s [], .s [], .i .i64 0, .s []] []] (x3.map (c6.cells false false))])] = some (True, [], .one (false, [.b (decide ((c8.mk x0 x1) = (c8.mk x2 x3)))])) := f7 _ (by rintro ⟨⟨_, _⟩, ⟨_, _⟩⟩ ⟨⟨_, _⟩, ⟨_, _⟩⟩ h; simp at h; simp_all) ((c8.mk x0 x1), (c8.mk x2 x3))
theorem a6j : OkC Tryz.prog 17 a0i := f8 _
end Go.Aw
