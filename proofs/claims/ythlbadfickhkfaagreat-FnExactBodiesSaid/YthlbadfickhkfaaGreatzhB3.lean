/- Programs: sizes, copies, equalities. No condition. -/
import Derived.Test.YthlbadfickhkfaaGreatzhB2
namespace Go.Aw
open Go.Proofs
attribute [local irreducible] aft blk lpK retK AW A0m
set_option linter.unusedVariables false
set_option linter.unusedSimpArgs false
set_option maxRecDepth 100000
def a0P (x : d5) : Nat := x.Name.length + (x.Args.length + i7 v8 x.Args)
def v6 (x : d4) : Nat := a0P x.Atom + v8 x.A + v8 x.B
def a3U (x : d3) : Nat := a0P x.Head + (x.Body.length + i7 v6 x.Body)
def a7j : ACode := q' ([o' 2 (.box 2 (.t 0)), z' 4 0]) (q' ([m' 5 1, f' 6 0 2, l' 7 6, o' 8 (.lens (.t 7)), o' 9 (.bin .sub (.t 5) (.t 8)), m' 1 9]) (.seq (q' ([m' 10 1, o' 11
 (.bin .lss (.t 10) (k' 0))]) (.cond (.t 11) (q' ([o' 4 (.mov (.k (.v false [.c (.i .i64 (-1))])))]) .ret) .skip)) (q' ([f' 12 1 2, l' 13 12, m' 14 1, c' 15
 178 [13, 14], m' 1 15]) (.seq (q' ([m' 16 1, o' 17 (.bin .lss (.t 16) (k' 0))]) (.cond (.t 17) (q' ([o' 4 (.mov (.k (.v false [.c (.i .i64 (-1))])))]) .ret)
 .skip)) (q' ([m' 18 1, m' 4 18]) .ret)))))
theorem b5G : cmp Tryz.prog Tryz.f110 = some a7j := by kernel_rfl
theorem b8i (a : d5) (left : Int) (hpre : 0 ≤ left ∧ left ≤ 1048576) : A0m Tryz.prog 110 [(true, [.s a.Name, .sl false [.s [], .i .i64 0, .s []] (a.Args.map c4.cells)]), (false, [.i .i64 left])] [] (.one (false, [.i .i64 (szR left (a0P a : Nat))])) := by
 refine spec_of2 false false none Tryz.func110 b5G (rvs := [.t 4]) (hΓ := mkCtx_ok (deep := false) (l := [(178, [], a3g)]) ⟨b0p, trivial⟩) (h := ?_)
 intro hb hE
 simp only [go_sem] at hb
 simp only [a7j, x']
 (try refine A2Z ?_); simp only [go_sem]; (repeat' first | apply CJ.mk | intro hc); all_goals try ((repeat' first | apply And.intro | intro hs) <;> (try simp only [go_sem, Bool.and_eq_false_iff] at hs) <;> omega)
 all_goals ((repeat (simp (disch := omega) only [a0k] at *)) <;> (try simp only [szR, a0P] at *) <;> (first | omega | (split <;> omega)))
noncomputable def a1u : CT := l8 (fun (x : d5 × Int) h => b8i x.1 x.2 h)
@[go_sem] theorem c5D (x0 : List UInt8) (x1 : List c4) (x2 : Int) : a1u [(true, [.s x0, .sl false [.s [], .i .i64 0, .s []] (x1.map c4.cells)]), (false, [.i .i64 x2])] = some (0 ≤ x2 ∧ x2 ≤ 1048576, [], .one (false, [.i .i64 (szR x2 (a0P (d5.mk x0 x1) : Nat))])) := f9 _ (by rintro ⟨⟨_, _⟩, _⟩ ⟨⟨_, _⟩, _⟩ h; simp at h; simp_all) ((d5.mk x0 x1), x2)
theorem a5j : OkC Tryz.prog 110 a1u := i3 _
def a8M : ACode := q' ([o' 2 (.box 10 (.t 0)), z' 4 0]) (q' ([f' 5 1 2, e' 6 2 5, m' 7 1, c' 8 110 [6, 7], m' 1 8]) (.seq (q' ([m' 9 1, o' 10 (.bin .lss (.t 9) (k' 0))]) (.cond
 (.t 10) (q' ([o' 4 (.mov (.k (.v false [.c (.i .i64 (-1))])))]) .ret) .skip)) (q' ([f' 11 4 2, e' 12 3 11, m' 13 1, c' 14 263 [12, 13], m' 1 14]) (.seq (q'
 ([m' 15 1, o' 16 (.bin .lss (.t 15) (k' 0))]) (.cond (.t 16) (q' ([o' 4 (.mov (.k (.v false [.c (.i .i64 (-1))])))]) .ret) .skip)) (q' ([f' 17 7 2, e' 18 3
 17, m' 19 1, c' 20 263 [18, 19], m' 1 20]) (.seq (q' ([m' 21 1, o' 22 (.bin .lss (.t 21) (k' 0))]) (.cond (.t 22) (q' ([o' 4 (.mov (.k (.v false [.c (.i .i64
 (-1))])))]) .ret) .skip)) (q' ([m' 23 1, m' 4 23]) .ret)))))))
theorem b7E : cmp Tryz.prog Tryz.f179 = some a8M := by kernel_rfl
theorem c0g (a : d4) (left : Int) (hpre : 0 ≤ left ∧ left ≤ 1048576) : A0m Tryz.prog 179 [(true, [.i .i64 a.Kind, .s a.Atom.Name, .sl false [.s [], .i .i64 0, .s []] (a.Atom.Args.map c4.cells), .i .i64 a.Op, .s a.A.Var, .i .i64 a.A.Val.N, .s a.A.Val.S, .s a.B.Var, .i .i64 a.B.Val.N, .s a.B.Val.S]), (false, [.i .i64 left])] [] (.one (false, [.i .i64 (szR left (v6 a : Nat))])) := by
 refine spec_of2 false false none Tryz.func179 b7E (rvs := [.t 4]) (hΓ := mkCtx_ok (deep := false) (l := [(110, [], a1u), (263, [], a1v)]) ⟨a5j, a5k, trivial⟩) (h := ?_)
 intro hb hE
 simp only [go_sem] at hb
 simp only [a8M, x']
 (try refine A2Z ?_); simp only [go_sem]; (repeat' first | apply CJ.mk | intro hc); all_goals try ((repeat' first | apply And.intro | intro hs) <;> (try simp only [go_sem, Bool.and_eq_false_iff] at hs) <;> omega)
 all_goals ((repeat (simp (disch := omega) only [a0k] at *)) <;> (try simp only [szR, v6] at *) <;> (first | omega | (split <;> omega)))
noncomputable def a5O : CT := l8 (fun (x : d4 × Int) h => c0g x.1 x.2 h)
@[go_sem] theorem c6U (x0 : Int) (x1 : List UInt8) (x2 : List c4) (x3 : Int) (x4 : List UInt8) (x5 : Int) (x6 x7 : List UInt8) (x8 : Int) (x9 : List UInt8) (x10 : Int) : a5O [(true, [.i .i64 x0, .s x1, .sl false [.s [], .i .i64 0, .s []] (x2.map c4.cells), .i .i64 x3, .s x4, .i .i64 x5, .s x6, .s x7, .i .i64 x8, .s x9]), (false, [.i .i64 x10])] = some (0 ≤ x10 ∧ x10 ≤ 1048576, [], .one (false, [.i .i64 (szR x10 (v6 (d4.mk x0 (d5.mk x1 x2) x3 (c4.mk x4 (c6.mk x5 x6)) (c4.mk x7 (c6.mk x8 x9))) : Nat))])) := f9 _ (by rintro ⟨⟨_, ⟨_, _⟩, _, ⟨_, ⟨_, _⟩⟩, ⟨_, ⟨_, _⟩⟩⟩, _⟩ ⟨⟨_, ⟨_, _⟩, _, ⟨_, ⟨_, _⟩⟩, ⟨_, ⟨_, _⟩⟩⟩, _⟩ h; simp at h; simp_all) ((d4.mk x0 (d5.mk x1 x2) x3 (c4.mk x4 (c6.mk x5 x6)) (c4.mk x7 (c6.mk x8 x9))), x10)
theorem b3j : OkC Tryz.prog 179 a5O := i3 _
def a7k : ACode := q' ([z' 4 0]) (q' ([m' 6 1, m' 7 0, n' 8 7, o' 9 (.bin .sub (.t 6) (.t 8)), m' 1 9]) (.seq (q' ([m' 10 1, o' 11 (.bin .lss (.t 10) (k' 0))]) (.cond (.t 11) (q'
 ([o' 4 (.mov (.k (.v false [.c (.i .i64 (-1))])))]) .ret) .skip)) (.seq (q' ([z' 5 0]) (.block 0 (.loop (.seq (q' ([m' 12 5, m' 13 0, n' 14 13, r' 15 12 14])
 (.cond (.t 15) .skip (.exit 0))) (.seq (.block 1 (q' ([m' 18 0, m' 19 5, i' 20 10 18 19, e' 21 10 20, m' 22 1, c' 23 179 [21, 22], m' 1 23]) (q' ([m' 24 1, o'
 25 (.bin .lss (.t 24) (k' 0))]) (.cond (.t 25) (q' ([o' 4 (.mov (.k (.v false [.c (.i .i64 (-1))])))]) .ret) .skip)))) (g' [m' 16 5, a' 17 16, m' 5 17]))))))
 (q' ([m' 26 1, m' 4 26]) .ret))))
theorem b5H : cmp Tryz.prog Tryz.f111 = some a7k := by kernel_rfl
theorem b8j (a : List d4) (left : Int) (hpre : 0 ≤ left ∧ left ≤ 1048576) : A0m Tryz.prog 111 [(false, [.sl false [.i .i64 0, .s [], .sl false [.s [], .i .i64 0, .s []] [], .i .i64 0, .s [], .i .i64 0, .s [], .s [], .i .i64 0, .s []] (a.map (d4.cells false false))]), (false, [.i .i64 left])] [] (.one (false, [.i .i64 (szR left ((a.length + i7 v6 a) : Nat))])) := by
 refine spec_of2 false false none Tryz.func111 b5H (rvs := [.t 4]) (hΓ := mkCtx_ok (deep := false) (l := [(179, [], a5O)]) ⟨b3j, trivial⟩) (h := ?_)
 intro hb hE
 simp only [go_sem] at hb
 simp only [a7k, x']
 (try refine A2Z ?_); simp only [go_sem]; (repeat' first | apply CJ.mk | intro hc); all_goals try ((repeat' first | apply And.intro | intro hs) <;> (try simp only [go_sem, Bool.and_eq_false_iff] at hs) <;> omega)
 ·all_goals ((repeat (simp (disch := omega) only [a0k] at *)) <;> (try simp only [szR, szR] at *) <;> (first | omega | (split <;> omega)))
 have hw := a0k (l := left) (n := a.length) (by omega) (by omega) (by omega) (by omega)
 rw [hw] at hc
 refine aw_loop2 false [] [0] [] [] (fun i : {i : Nat // i ≤ a.length ∧ (a.length : Int) + (i7 v6 (a.take i) : Nat) ≤ left} => [(5, slV (.i .i64 i.1)), (1, slV (.i .i64 (left - a.length - (i7 v6 (a.take i.1) : Nat))))]) (fun i => []) (fun i => []) (fun i => a.length - i.1) (⟨0, by simp only [List.take_zero, a5x]; omega⟩) _ rfl ?_ ?_
 ·simp only [go_sem, hw]
  all_goals first | omega | ((repeat' apply And.intro) <;> first | omega | rfl | skip)
 intro S0 hS0 i
 simp only [go_sem, hw] at hS0
 obtain ⟨i, hi, ht⟩ := i
 (try refine A2Z ?_); simp only [go_sem, hw, hS0]; (repeat' first | apply CJ.mk | intro hc); all_goals try ((repeat' first | apply And.intro | intro hs) <;> (try simp only [go_sem, Bool.and_eq_false_iff] at hs) <;> omega)
 ·have h1 := j4 v6 (default : d4) (show i < a.length by omega)
  have h2 := p7 v6 a (i + 1)
  all_goals ((repeat (simp (disch := omega) only [a0k] at *)) <;> (try simp only [szR, szR] at *) <;> (first | omega | (split <;> omega)))
 ·have h1 := j4 v6 (default : d4) (show i < a.length by omega)
  (refine lpK_n2 (⟨i + 1, by omega, by unfold szR at hc; split at hc <;> omega⟩) _ rfl ?_; simp only [go_sem, hw, hS0]; first | done | ((repeat' apply And.intro) <;> first | omega | (refine w64 ?_ ?_ ?_ <;> omega) | rfl | skip))
  rw [h1]
  unfold szR at hc ⊢
  split at hc <;> omega
 ·have h1 := a0r v6 (show ¬ i < a.length by omega)
  all_goals ((repeat (simp (disch := omega) only [a0k] at *)) <;> (try simp only [szR, szR] at *) <;> (first | omega | (split <;> omega)))
 all_goals all_goals ((repeat (simp (disch := omega) only [a0k] at *)) <;> (try simp only [szR, szR] at *) <;> (first | omega | (split <;> omega)))
noncomputable def a4j : CT := l8 (fun (x : (List d4) × Int) h => b8j x.1 x.2 h)
@[go_sem] theorem c5E (a : List d4) (x0 : Int) : a4j [(false, [.sl false [.i .i64 0, .s [], .sl false [.s [], .i .i64 0, .s []] [], .i .i64 0, .s [], .i .i64 0, .s [], .s [], .i .i64 0, .s []] (a.map (d4.cells false false))]), (false, [.i .i64 x0])] = some (0 ≤ x0 ∧ x0 ≤ 1048576, [], .one (false, [.i .i64 (szR x0 ((a.length + i7 v6 a) : Nat))])) := f9 _ (by rintro ⟨_, _⟩ ⟨_, _⟩ h; simp at h; simp_all) (a, x0)
theorem b1t : OkC Tryz.prog 111 a4j := i3 _
def a7m : ACode := q' ([o' 2 (.box 4 (.t 0)), z' 4 0]) (q' ([f' 5 1 2, e' 6 2 5, m' 7 1, c' 8 110 [6, 7], m' 1 8]) (.seq (q' ([m' 9 1, o' 10 (.bin .lss (.t 9) (k' 0))]) (.cond (.t
 10) (q' ([o' 4 (.mov (.k (.v false [.c (.i .i64 (-1))])))]) .ret) .skip)) (q' ([f' 11 3 2, l' 12 11, m' 13 1, c' 14 111 [12, 13], m' 1 14]) (.seq (q' ([m' 15
 1, o' 16 (.bin .lss (.t 15) (k' 0))]) (.cond (.t 16) (q' ([o' 4 (.mov (.k (.v false [.c (.i .i64 (-1))])))]) .ret) .skip)) (q' ([m' 17 1, m' 4 17]) .ret)))))
theorem b5J : cmp Tryz.prog Tryz.f46 = some a7m := by kernel_rfl
theorem b8l (a : d3) (left : Int) (hpre : 0 ≤ left ∧ left ≤ 1048576) : A0m Tryz.prog 46 [(true, [.i .i64 a.Kind, .s a.Head.Name, .sl false [.s [], .i .i64 0, .s []] (a.Head.Args.map c4.cells), .sl false [.i .i64 0, .s [], .sl false [.s [], .i .i64 0, .s []] [], .i .i64 0, .s [], .i .i64 0, .s [], .s [], .i .i64 0, .s []] (a.Body.map (d4.cells false false))]), (false, [.i .i64 left])] [] (.one (false, [.i .i64 (szR left (a3U a : Nat))])) := by
 refine spec_of2 false false none Tryz.func46 b5J (rvs := [.t 4]) (hΓ := mkCtx_ok (deep := false) (l := [(110, [], a1u), (111, [], a4j)]) ⟨a5j, b1t, trivial⟩) (h := ?_)
 intro hb hE
 simp only [go_sem] at hb
 simp only [a7m, x']
 (try refine A2Z ?_); simp only [go_sem]; (repeat' first | apply CJ.mk | intro hc); all_goals try ((repeat' first | apply And.intro | intro hs) <;> (try simp only [go_sem, Bool.and_eq_false_iff] at hs) <;> omega)
 all_goals ((repeat (simp (disch := omega) only [a0k] at *)) <;> (try simp only [szR, a3U] at *) <;> (first | omega | (split <;> omega)))
noncomputable def a4l : CT := l8 (fun (x : d3 × Int) h => b8l x.1 x.2 h)
@[go_sem] theorem c5G (x0 : Int) (x1 : List UInt8) (x2 : List c4) (x3 : List d4) (x4 : Int) : a4l [(true, [.i .i64 x0, .s x1, .sl false [.s [], .i .i64 0, .s []] (x2.map c4.cells), .sl false [.i .i64 0, .s [], .sl false [.s [], .i .i64 0, .s []] [], .i .i64 0, .s [], .i .i64 0, .s [], .s [], .i .i64 0, .s []] (x3.map (d4.cells false false))]), (false, [.i .i64 x4])] = some (0 ≤ x4 ∧ x4 ≤ 1048576, [], .one (false, [.i .i64 (szR x4 (a3U (d3.mk x0 (d5.mk x1 x2) x3) : Nat))])) := f9 _ (by rintro ⟨⟨_, ⟨_, _⟩, _⟩, _⟩ ⟨⟨_, ⟨_, _⟩, _⟩, _⟩ h; simp at h; simp_all) ((d3.mk x0 (d5.mk x1 x2) x3), x4)
theorem b1v : OkC Tryz.prog 46 a4l := i3 _
def a7o : ACode := q' ([o' 1 (.box 2 (.t 0)), w' 2 [.s, .sl [.s [], .i .i64 0, .s []]]]) (q' ([w' 3 [.s, .sl [.s [], .i .i64 0, .s []]]]) (q' ([f' 4 0 1, l' 5 4, f' 6 0 3, s' 1 6
 5]) (q' ([f' 7 1 1, l' 8 7, c' 9 189 [8], f' 10 1 3, s' 1 10 9]) (q' ([e' 11 2 3, s' 2 2 11]) .ret))))
theorem b5L : cmp Tryz.prog Tryz.f115 = some a7o := by kernel_rfl
theorem b8n (a : d5) (hpre : (a0P a : Int) ≤ 1048576) : A0m Tryz.prog 115 [(true, [.s a.Name, .sl false [.s [], .i .i64 0, .s []] (a.Args.map c4.cells)])] [] (.one (true, [.s a.Name, .sl true [.s [], .i .i64 0, .s []] (a.Args.map c4.cells)])) := by
 refine spec_of2 true false none Tryz.func115 b5L (rvs := [.c 2 true 2]) (hΓ := mkCtx_ok (deep := true) (l := [(189, [], a3j)]) ⟨b0s, trivial⟩) (h := ?_)
 intro hb hE
 simp only [go_sem] at hb
 simp only [a7o, x']
 (try refine A2Z ?_); simp only [go_sem]; (repeat' first | apply CJ.mk | intro hc); all_goals try ((repeat' first | apply And.intro | intro hs) <;> (try simp only [go_sem, Bool.and_eq_false_iff] at hs) <;> omega)
 all_goals (simp only [a0P] at *; omega)
noncomputable def a1w : CT := l8 (fun (x : d5) h => b8n x h)
@[go_sem] theorem c5I (x0 : List UInt8) (x1 : List c4) : a1w [(true, [.s x0, .sl false [.s [], .i .i64 0, .s []] (x1.map c4.cells)])] = some ((a0P (d5.mk x0 x1) : Int) ≤ 1048576, [], .one (true, [.s ((d5.mk x0 x1).Name), .sl true [.s [], .i .i64 0, .s []] (((d5.mk x0 x1).Args).map c4.cells)])) := f9 _ (by rintro ⟨_, _⟩ ⟨_, _⟩ h; simp at h; simp_all) (d5.mk x0 x1)
theorem a5l : OkC Tryz.prog 115 a1w := i3 _
def a8P : ACode := q' ([o' 1 (.box 10 (.t 0)), w' 2 [.i .i64, .s, .sl [.s [], .i .i64 0, .s []], .i .i64, .s, .i .i64, .s, .s, .i .i64, .s]]) (q' ([w' 3 [.i .i64, .s, .sl [.s [],
 .i .i64 0, .s []], .i .i64, .s, .i .i64, .s, .s, .i .i64, .s]]) (q' ([f' 4 0 1, l' 5 4, f' 6 0 3, s' 1 6 5]) (q' ([f' 7 1 1, e' 8 2 7, c' 9 115 [8], f' 10 1
 3, s' 2 10 9]) (q' ([f' 11 3 1, l' 12 11, f' 13 3 3, s' 1 13 12]) (q' ([f' 14 4 1, e' 15 3 14, c' 16 272 [15], f' 17 4 3, s' 3 17 16]) (q' ([f' 18 7 1, e' 19
 3 18, c' 20 272 [19], f' 21 7 3, s' 3 21 20]) (q' ([e' 22 10 3, s' 10 2 22]) .ret)))))))
theorem b7H : cmp Tryz.prog Tryz.f190 = some a8P := by kernel_rfl
theorem c0j (a : d4) (hpre : (v6 a : Int) ≤ 1048576) : A0m Tryz.prog 190 [(true, [.i .i64 a.Kind, .s a.Atom.Name, .sl false [.s [], .i .i64 0, .s []] (a.Atom.Args.map c4.cells), .i .i64 a.Op, .s a.A.Var, .i .i64 a.A.Val.N, .s a.A.Val.S, .s a.B.Var, .i .i64 a.B.Val.N, .s a.B.Val.S])] [] (.one (true, [.i .i64 a.Kind, .s a.Atom.Name, .sl true [.s [], .i .i64 0, .s []] (a.Atom.Args.map c4.cells), .i .i64 a.Op, .s a.A.Var, .i .i64 a.A.Val.N, .s a.A.Val.S, .s a.B.Var, .i .i64 a.B.Val.N, .s a.B.Val.S])) := by
 refine spec_of2 true false none Tryz.func190 b7H (rvs := [.c 2 true 10]) (hΓ := mkCtx_ok (deep := true) (l := [(115, [], a1w), (272, [], a1x)]) ⟨a5l, a5m, trivial⟩) (h := ?_)
 intro hb hE
 simp only [go_sem] at hb
 simp only [a8P, x']
 (try refine A2Z ?_); simp only [go_sem]; (repeat' first | apply CJ.mk | intro hc); all_goals try ((repeat' first | apply And.intro | intro hs) <;> (try simp only [go_sem, Bool.and_eq_false_iff] at hs) <;> omega)
 all_goals (simp only [v6] at *; omega)
noncomputable def a5R : CT := l8 (fun (x : d4) h => c0j x h)
@[go_sem] theorem c6X (x0 : Int) (x1 : List UInt8) (x2 : List c4) (x3 : Int) (x4 : List UInt8) (x5 : Int) (x6 x7 : List UInt8) (x8 : Int) (x9 : List UInt8) : a5R [(true, [.i .i64 x0, .s x1, .sl false [.s [], .i .i64 0, .s []] (x2.map c4.cells), .i .i64 x3, .s x4, .i .i64 x5, .s x6, .s x7, .i .i64 x8, .s x9])] = some ((v6 (d4.mk x0 (d5.mk x1 x2) x3 (c4.mk x4 (c6.mk x5 x6)) (c4.mk x7 (c6.mk x8 x9))) : Int) ≤ 1048576, [], .one (true, [.i .i64 ((d4.mk x0 (d5.mk x1 x2) x3 (c4.mk x4 (c6.mk x5 x6)) (c4.mk x7 (c6.mk x8 x9))).Kind), .s (((d4.mk x0 (d5.mk x1 x2) x3 (c4.mk x4 (c6.mk x5 x6)) (c4.mk x7 (c6.mk x8 x9))).Atom).Name), .sl true [.s [], .i .i64 0, .s []] ((((d4.mk x0 (d5.mk x1 x2) x3 (c4.mk x4 (c6.mk x5 x6)) (c4.mk x7 (c6.mk x8 x9))).Atom).Args).map c4.cells), .i .i64 ((d4.mk x0 (d5.mk x1 x2) x3 (c4.mk x4 (c6.mk x5 x6)) (c4.mk x7 (c6.mk x8 x9))).Op), .s (((d4.mk x0 (d5.mk x1 x2) x3 (c4.mk x4 (c6.mk x5 x6)) (c4.mk x7 (c6.mk x8 x9))).A).Var), .i .i64 ((((d4.mk x0 (d5.mk x1 x2) x3 (c4.mk x4 (c6.mk x5 x6)) (c4.mk x7 (c6.mk x8 x9))).A).Val).N), .s ((((d4.mk x0 (d5.mk x1 x2) x3 (c4.mk x4 (c6.mk x5 x6)) (c4.mk x7 (c6.mk x8 x9))).A).Val).S), .s (((d4.mk x0 (d5.mk x1 x2) x3 (c4.mk x4 (c6.mk x5 x6)) (c4.mk x7 (c6.mk x8 x9))).B).Var), .i .i64 ((((d4.mk x0 (d5.mk x1 x2) x3 (c4.mk x4 (c6.mk x5 x6)) (c4.mk x7 (c6.mk x8 x9))).B).Val).N), .s ((((d4.mk x0 (d5.mk x1 x2) x3 (c4.mk x4 (c6.mk x5 x6)) (c4.mk x7 (c6.mk x8 x9))).B).Val).S)])) := f9 _ (by rintro ⟨_, ⟨_, _⟩, _, ⟨_, ⟨_, _⟩⟩, ⟨_, ⟨_, _⟩⟩⟩ ⟨_, ⟨_, _⟩, _, ⟨_, ⟨_, _⟩⟩, ⟨_, ⟨_, _⟩⟩⟩ h; simp at h; simp_all) (d4.mk x0 (d5.mk x1 x2) x3 (c4.mk x4 (c6.mk x5 x6)) (c4.mk x7 (c6.mk x8 x9)))
theorem b3m : OkC Tryz.prog 190 a5R := i3 _
def a7p : ACode := q' ([o' 2 (.mov (.k (.v false [.nl [.i .i64 0, .s [], .sl false [.s [], .i .i64 0, .s []] [], .i .i64 0, .s [], .i .i64 0, .s [], .s [], .i .i64 0, .s []]])))])
 (q' ([m' 5 0, n' 6 5, o' 7 (.mks 10 136 [.i .i64, .s, .sl [.s [], .i .i64 0, .s []], .i .i64, .s, .i .i64, .s, .s, .i .i64, .s] (.t 6) (.t 6)), m' 3 7]) (.seq
 (q' ([z' 4 0]) (.block 0 (.loop (.seq (q' ([m' 8 4, m' 9 0, n' 10 9, r' 11 8 10]) (.cond (.t 11) .skip (.exit 0))) (.seq (.block 1 (g' [m' 14 3, m' 15 4, m'
 16 0, m' 17 4, i' 18 10 16 17, e' 19 10 18, c' 20 190 [19], i' 21 10 14 15, s' 10 21 20])) (g' [m' 12 4, a' 13 12, m' 4 13])))))) (q' ([m' 22 3, m' 2 22])
 .ret)))
theorem b5M : cmp Tryz.prog Tryz.f116 = some a7p := by kernel_rfl
theorem b8o (a : List d4) (hpre : (((a.length + i7 v6 a) : Nat) : Int) ≤ 1048576) : A0m Tryz.prog 116 [(false, [.sl false [.i .i64 0, .s [], .sl false [.s [], .i .i64 0, .s []] [], .i .i64 0, .s [], .i .i64 0, .s [], .s [], .i .i64 0, .s []] (a.map (d4.cells false false))])] [] (.one (false, [.sl true [.i .i64 0, .s [], .sl true [.s [], .i .i64 0, .s []] [], .i .i64 0, .s [], .i .i64 0, .s [], .s [], .i .i64 0, .s []] (a.map (d4.cells true true))])) := by
 refine spec_of2 true false none Tryz.func116 b5M (rvs := [.t 2]) (hΓ := mkCtx_ok (deep := true) (l := [(190, [], a5R)]) ⟨b3m, trivial⟩) (h := ?_)
 intro hb hE
 simp only [go_sem] at hb
 simp only [a7p, x']
 (try refine A2Z ?_); simp only [go_sem, a6N]; (repeat' first | apply CJ.mk | intro hc); all_goals try ((repeat' first | apply And.intro | intro hs) <;> (try simp only [go_sem, Bool.and_eq_false_iff] at hs) <;> omega)
 refine aw_loop2 true [] [0, 3] [] [] (fun i : {p : Nat × (List d4) // p.1 ≤ a.length ∧ p.2.length = a.length ∧ p.2.take p.1 = a.take p.1} => [(4, slV (.i .i64 i.1.1))]) (fun i => []) (fun i => [(896, [.i .i64 0, .s [], .sl true [.s [], .i .i64 0, .s []] [], .i .i64 0, .s [], .i .i64 0, .s [], .s [], .i .i64 0, .s []], i.1.2.map (d4.cells true true))]) (fun i => a.length - i.1.1) (⟨(0, List.replicate a.length default), by simp⟩) _ rfl ?_ ?_
 ·simp only [go_sem, a6N]
  all_goals first | omega | ((repeat' apply And.intro) <;> first | omega | rfl | skip)
 intro S0 hS0 i
 simp only [go_sem, a6N] at hS0
 obtain ⟨⟨i, L⟩, hi, hl, ht⟩ := i
 simp only at hi hl ht
 have hg := b2G v6 a i default rfl
 (try refine A2Z ?_); simp only [go_sem, a6N, hS0]; (repeat' first | apply CJ.mk | intro hc); all_goals try ((repeat' first | apply And.intro | intro hs) <;> (try simp only [go_sem, Bool.and_eq_false_iff] at hs) <;> omega)
 ·(refine lpK_n2 (⟨(i + 1, L.set i (a.getD i default)), by simp only; omega, by simp [hl], t5 hl ht (by omega)⟩) _ rfl ?_; simp only [go_sem, a6N, hS0]; first | done | ((repeat' apply And.intro) <;> first | omega | (refine w64 ?_ ?_ ?_ <;> omega) | rfl | skip))
 ·obtain rfl := o7 hl ht (by omega)
  rfl
 all_goals trace_state
noncomputable def a4m : CT := l8 (fun (x : (List d4)) h => b8o x h)
@[go_sem] theorem c5J (a : List d4) : a4m [(false, [.sl false [.i .i64 0, .s [], .sl false [.s [], .i .i64 0, .s []] [], .i .i64 0, .s [], .i .i64 0, .s [], .s [], .i .i64 0, .s []] (a.map (d4.cells false false))])] = some ((((a.length + i7 v6 a) : Nat) : Int) ≤ 1048576, [], .one (false, [.sl true [.i .i64 0, .s [], .sl true [.s [], .i .i64 0, .s []] [], .i .i64 0, .s [], .i .i64 0, .s [], .s [], .i .i64 0, .s []] (a.map (d4.cells true true))])) := f9 _ (by intro x y h; simp at h; simp_all) a
theorem b1w : OkC Tryz.prog 116 a4m := i3 _
def a7r : ACode := q' ([o' 1 (.box 4 (.t 0)), w' 2 [.i .i64, .s, .sl [.s [], .i .i64 0, .s []], .sl [.i .i64 0, .s [], .sl false [.s [], .i .i64 0, .s []] [], .i .i64 0, .s [], .i
 .i64 0, .s [], .s [], .i .i64 0, .s []]]]) (q' ([w' 3 [.i .i64, .s, .sl [.s [], .i .i64 0, .s []], .sl [.i .i64 0, .s [], .sl false [.s [], .i .i64 0, .s []]
 [], .i .i64 0, .s [], .i .i64 0, .s [], .s [], .i .i64 0, .s []]]]) (q' ([f' 4 0 1, l' 5 4, f' 6 0 3, s' 1 6 5]) (q' ([f' 7 1 1, e' 8 2 7, c' 9 115 [8], f' 10
 1 3, s' 2 10 9]) (q' ([f' 11 3 1, l' 12 11, c' 13 116 [12], f' 14 3 3, s' 1 14 13]) (q' ([e' 15 4 3, s' 4 2 15]) .ret)))))
theorem b5O : cmp Tryz.prog Tryz.f48 = some a7r := by kernel_rfl
theorem b8q (a : d3) (hpre : (a3U a : Int) ≤ 1048576) : A0m Tryz.prog 48 [(true, [.i .i64 a.Kind, .s a.Head.Name, .sl false [.s [], .i .i64 0, .s []] (a.Head.Args.map c4.cells), .sl false [.i .i64 0, .s [], .sl false [.s [], .i .i64 0, .s []] [], .i .i64 0, .s [], .i .i64 0, .s [], .s [], .i .i64 0, .s []] (a.Body.map (d4.cells false false))])] [] (.one (true, [.i .i64 a.Kind, .s a.Head.Name, .sl true [.s [], .i .i64 0, .s []] (a.Head.Args.map c4.cells), .sl true [.i .i64 0, .s [], .sl true [.s [], .i .i64 0, .s []] [], .i .i64 0, .s [], .i .i64 0, .s [], .s [], .i .i64 0, .s []] (a.Body.map (d4.cells true true))])) := by
 refine spec_of2 true false none Tryz.func48 b5O (rvs := [.c 2 true 4]) (hΓ := mkCtx_ok (deep := true) (l := [(115, [], a1w), (116, [], a4m)]) ⟨a5l, b1w, trivial⟩) (h := ?_)
 intro hb hE
 simp only [go_sem] at hb
 simp only [a7r, x']
 (try refine A2Z ?_); simp only [go_sem]; (repeat' first | apply CJ.mk | intro hc); all_goals try ((repeat' first | apply And.intro | intro hs) <;> (try simp only [go_sem, Bool.and_eq_false_iff] at hs) <;> omega)
 all_goals (simp only [a3U] at *; omega)
noncomputable def a4o : CT := l8 (fun (x : d3) h => b8q x h)
@[go_sem] theorem c5L (x0 : Int) (x1 : List UInt8) (x2 : List c4) (x3 : List d4) : a4o [(true, [.i .i64 x0, .s x1, .sl false [.s [], .i .i64 0, .s []] (x2.map c4.cells), .sl false [.i .i64 0, .s [], .sl false [.s [], .i .i64 0, .s []] [], .i .i64 0, .s [], .i .i64 0, .s [], .s [], .i .i64 0, .s []] (x3.map (d4.cells false false))])] = some ((a3U (d3.mk x0 (d5.mk x1 x2) x3) : Int) ≤ 1048576, [], .one (true, [.i .i64 ((d3.mk x0 (d5.mk x1 x2) x3).Kind), .s (((d3.mk x0 (d5.mk x1 x2) x3).Head).Name), .sl true [.s [], .i .i64 0, .s []] ((((d3.mk x0 (d5.mk x1 x2) x3).Head).Args).map c4.cells), .sl true [.i .i64 0, .s [], .sl true [.s [], .i .i64 0, .s []] [], .i .i64 0, .s [], .i .i64 0, .s [], .s [], .i .i64 0, .s []] (((d3.mk x0 (d5.mk x1 x2) x3).Body).map (d4.cells true true))])) := f9 _ (by rintro ⟨_, ⟨_, _⟩, _⟩ ⟨_, ⟨_, _⟩, _⟩ h; simp at h; simp_all) (d3.mk x0 (d5.mk x1 x2) x3)
theorem b1y : OkC Tryz.prog 48 a4o := i3 _
def a7c : ACode := q' ([o' 2 (.box 2 (.t 0)), o' 3 (.box 2 (.t 1)), b' 4 false]) (.seq (q' ([f' 5 0 2, l' 6 5, f' 7 0 3, l' 8 7, o' 9 (.bin .neq (.t 6) (.t 8))]) (.cond (.t 9) (q'
 ([b' 4 false]) .ret) .skip)) (.seq (q' ([f' 10 1 2, l' 11 10, f' 12 1 3, l' 13 12, c' 14 205 [11, 13], o' 15 (.not (.t 14))]) (.cond (.t 15) (q' ([b' 4
 false]) .ret) .skip)) (q' ([b' 4 true]) .ret)))
theorem b5z : cmp Tryz.prog Tryz.f122 = some a7c := by kernel_rfl
theorem b8b (a : d5) (b : d5) : A0m Tryz.prog 122 [(true, [.s a.Name, .sl false [.s [], .i .i64 0, .s []] (a.Args.map c4.cells)]), (true, [.s b.Name, .sl false [.s [], .i .i64 0, .s []] (b.Args.map c4.cells)])] [] (.one (false, [.b (decide (a = b))])) := by
 refine spec_of2 false false none Tryz.func122 b5z (rvs := [.t 4]) (hΓ := mkCtx_ok (deep := false) (l := [(205, [], a3d)]) ⟨b0m, trivial⟩) (h := ?_)
 intro hb hE
 simp only [go_sem] at hb
 simp only [a7c, x']
 (try refine A2Z ?_); simp only [go_sem]; (repeat' first | apply CJ.mk | intro hc); all_goals try ((repeat' first | apply And.intro | intro hs) <;> (try simp only [go_sem, Bool.and_eq_false_iff] at hs) <;> omega)
 all_goals (cases a; cases b; simp_all)
noncomputable def a1s : CT := j7 (fun (x : d5 × d5) => b8b x.1 x.2)
@[go_sem] theorem c5w (x0 : List UInt8) (x1 : List c4) (x2 : List UInt8) (x3 : List c4) : a1s [(true, [.s x0, .sl false [.s [], .i .i64 0, .s []] (x1.map c4.cells)]), (true, [.s x2, .sl false [.s [], .i .i64 0, .s []] (x3.map c4.cells)])] = some (True, [], .one (false, [.b (decide ((d5.mk x0 x1) = (d5.mk x2 x3)))])) := f7 _ (by rintro ⟨⟨_, _⟩, ⟨_, _⟩⟩ ⟨⟨_, _⟩, ⟨_, _⟩⟩ h; simp at h; simp_all) ((d5.mk x0 x1), (d5.mk x2 x3))
theorem a5h : OkC Tryz.prog 122 a1s := f8 _
def a8J : ACode := q' ([o' 2 (.box 10 (.t 0)), o' 3 (.box 10 (.t 1)), b' 4 false]) (.seq (q' ([f' 5 0 2, l' 6 5, f' 7 0 3, l' 8 7, o' 9 (.bin .neq (.t 6) (.t 8))]) (.cond (.t 9)
 (q' ([b' 4 false]) .ret) .skip)) (.seq (q' ([f' 10 1 2, e' 11 2 10, f' 12 1 3, e' 13 2 12, c' 14 122 [11, 13], o' 15 (.not (.t 14))]) (.cond (.t 15) (q' ([b'
 4 false]) .ret) .skip)) (.seq (q' ([f' 16 3 2, l' 17 16, f' 18 3 3, l' 19 18, o' 20 (.bin .neq (.t 17) (.t 19))]) (.cond (.t 20) (q' ([b' 4 false]) .ret)
 .skip)) (.seq (q' ([f' 21 4 2, e' 22 3 21, f' 23 4 3, e' 24 3 23, c' 25 289 [22, 24], o' 26 (.not (.t 25))]) (.cond (.t 26) (q' ([b' 4 false]) .ret) .skip))
 (.seq (q' ([f' 27 7 2, e' 28 3 27, f' 29 7 3, e' 30 3 29, c' 31 289 [28, 30], o' 32 (.not (.t 31))]) (.cond (.t 32) (q' ([b' 4 false]) .ret) .skip)) (q' ([b'
 4 true]) .ret))))))
theorem b7B : cmp Tryz.prog Tryz.f206 = some a8J := by kernel_rfl
theorem c0d (a : d4) (b : d4) : A0m Tryz.prog 206 [(true, [.i .i64 a.Kind, .s a.Atom.Name, .sl false [.s [], .i .i64 0, .s []] (a.Atom.Args.map c4.cells), .i .i64 a.Op, .s a.A.Var, .i .i64 a.A.Val.N, .s a.A.Val.S, .s a.B.Var, .i .i64 a.B.Val.N, .s a.B.Val.S]), (true, [.i .i64 b.Kind, .s b.Atom.Name, .sl false [.s [], .i .i64 0, .s []] (b.Atom.Args.map c4.cells), .i .i64 b.Op, .s b.A.Var, .i .i64 b.A.Val.N, .s b.A.Val.S, .s b.B.Var, .i .i64 b.B.Val.N, .s b.B.Val.S])] [] (.one (false, [.b (decide (a = b))])) := by
 refine spec_of2 false false none Tryz.func206 b7B (rvs := [.t 4]) (hΓ := mkCtx_ok (deep := false) (l := [(122, [], a1s), (289, [], a1t)]) ⟨a5h, a5i, trivial⟩) (h := ?_)
 intro hb hE
 simp only [go_sem] at hb
 simp only [a8J, x']
 (try refine A2Z ?_); simp only [go_sem]; (repeat' first | apply CJ.mk | intro hc); all_goals try ((repeat' first | apply And.intro | intro hs) <;> (try simp only [go_sem, Bool.and_eq_false_iff] at hs) <;> omega)
 all_goals (cases a; cases b; simp_all)
noncomputable def a5L : CT := j7 (fun (x : d4 × d4) => c0d x.1 x.2)
@[go_sem] theorem c6R (x0 : Int) (x1 : List UInt8) (x2 : List c4) (x3 : Int) (x4 : List UInt8) (x5 : Int) (x6 x7 : List UInt8) (x8 : Int) (x9 : List UInt8) (x10 : Int) (x11 : List UInt8) (x12 : List c4) (x13 : Int) (x14 : List UInt8) (x15 : Int) (x16 x17 : List UInt8) (x18 : Int) (x19 : List UInt8) : a5L [(true, [.i .i64 x0, .s x1, .sl false [.s [], .i .i64 0, .s []] (x2.map c4.cells), .i .i64 x3, .s x4, .i .i64 x5, .s x6, .s x7, .i .i64 x8, .s x9]), (true, [.i .i64 x10, .s x11, .sl false [.s [], .i .i64 0, .s []] (x12.map c4.cells), .i .i64 x13, .s x14, .i .i64 x15, .s x16, .s x17, .i .i64 x18, .s x19])] = some (True, [], .one (false, [.b (decide ((d4.mk x0 (d5.mk x1 x2) x3 (c4.mk x4 (c6.mk x5 x6)) (c4.mk x7 (c6.mk x8 x9))) = (d4.mk x10 (d5.mk x11 x12) x13 (c4.mk x14 (c6.mk x15 x16)) (c4.mk x17 (c6.mk x18 x19)))))])) := f7 _ (by rintro ⟨⟨_, ⟨_, _⟩, _, ⟨_, ⟨_, _⟩⟩, ⟨_, ⟨_, _⟩⟩⟩, ⟨_, ⟨_, _⟩, _, ⟨_, ⟨_, _⟩⟩, ⟨_, ⟨_, _⟩⟩⟩⟩ ⟨⟨_, ⟨_, _⟩, _, ⟨_, ⟨_, _⟩⟩, ⟨_, ⟨_, _⟩⟩⟩, ⟨_, ⟨_, _⟩, _, ⟨_, ⟨_, _⟩⟩, ⟨_, ⟨_, _⟩⟩⟩⟩ h; simp at h; simp_all) ((d4.mk x0 (d5.mk x1 x2) x3 (c4.mk x4 (c6.mk x5 x6)) (c4.mk x7 (c6.mk x8 x9))), (d4.mk x10 (d5.mk x11 x12) x13 (c4.mk x14 (c6.mk x15 x16)) (c4.mk x17 (c6.mk x18 x19))))
theorem b3g : OkC Tryz.prog 206 a5L := f8 _
def a7f : ACode := q' ([b' 4 false]) (.seq (q' ([m' 6 0, n' 7 6, m' 8 1, n' 9 8, o' 10 (.bin .neq (.t 7) (.t 9))]) (.cond (.t 10) (q' ([b' 4 false]) .ret) .skip)) (.seq (q' ([z' 5
 0]) (.block 0 (.loop (.seq (q' ([m' 11 5, m' 12 0, n' 13 12, r' 14 11 13]) (.cond (.t 14) .skip (.exit 0))) (.seq (.block 1 (.seq (.reg true [m' 17 0, m' 18
 5, i' 19 10 17 18, e' 20 10 19, m' 21 1, m' 22 5, i' 23 10 21 22, e' 24 10 23, c' 25 206 [20, 24], o' 26 (.not (.t 25))]) (.cond (.t 26) (q' ([b' 4 false])
 .ret) .skip))) (g' [m' 15 5, a' 16 15, m' 5 16])))))) (q' ([b' 4 true]) .ret)))
theorem b5C : cmp Tryz.prog Tryz.f123 = some a7f := by kernel_rfl
theorem b8e (a : List d4) (b : List d4) : A0m Tryz.prog 123 [(false, [.sl false [.i .i64 0, .s [], .sl false [.s [], .i .i64 0, .s []] [], .i .i64 0, .s [], .i .i64 0, .s [], .s [], .i .i64 0, .s []] (a.map (d4.cells false false))]), (false, [.sl false [.i .i64 0, .s [], .sl false [.s [], .i .i64 0, .s []] [], .i .i64 0, .s [], .i .i64 0, .s [], .s [], .i .i64 0, .s []] (b.map (d4.cells false false))])] [] (.one (false, [.b (decide (a = b))])) := by
 refine spec_of2 false false none Tryz.func123 b5C (rvs := [.t 4]) (hΓ := mkCtx_ok (deep := false) (l := [(206, [], a5L)]) ⟨b3g, trivial⟩) (h := ?_)
 intro hb hE
 simp only [go_sem] at hb
 simp only [a7f, x']
 (try refine A2Z ?_); simp only [go_sem]; (repeat' first | apply CJ.mk | intro hc); all_goals try ((repeat' first | apply And.intro | intro hs) <;> (try simp only [go_sem, Bool.and_eq_false_iff] at hs) <;> omega)
 ·symm
  rw [decide_eq_false_iff_not]
  rintro rfl
  simp at hc
 have hl : a.length = b.length := by simpa [Int.ofNat_inj] using hc
 refine aw_loop2 false [] [0, 1] [] [] (fun i : {i : Nat // i ≤ a.length ∧ a.take i = b.take i} => [(5, slV (.i .i64 i.1))]) (fun i => []) (fun i => []) (fun i => a.length - i.1) (⟨0, by simp⟩) _ rfl ?_ ?_
 ·simp only [go_sem]
  all_goals first | omega | ((repeat' apply And.intro) <;> first | omega | rfl | skip)
 intro S0 hS0 i
 simp only [go_sem] at hS0
 obtain ⟨i, hi, ht⟩ := i
 (try refine A2Z ?_); simp only [go_sem, hS0]; (repeat' first | apply CJ.mk | intro hc); all_goals try ((repeat' first | apply And.intro | intro hs) <;> (try simp only [go_sem, Bool.and_eq_false_iff] at hs) <;> omega)
 ·exact (decide_eq_false (a0u default (i := i) (by simpa using hc))).symm
 ·(refine lpK_n2 (⟨i + 1, by omega, y7 ht (by omega) (by omega) (d := default) (by simpa using hc)⟩) _ rfl ?_; simp only [go_sem, hS0]; first | done | ((repeat' apply And.intro) <;> first | omega | (refine w64 ?_ ?_ ?_ <;> omega) | rfl | skip))
 ·exact (decide_eq_true (o7 hl ht (by omega))).symm
 all_goals trace_state
noncomputable def a4g : CT := j7 (fun (x : (List d4) × (List d4)) => b8e x.1 x.2)
@[go_sem] theorem c5z (a b : List d4) : a4g [(false, [.sl false [.i .i64 0, .s [], .sl false [.s [], .i .i64 0, .s []] [], .i .i64 0, .s [], .i .i64 0, .s [], .s [], .i .i64 0, .s []] (a.map (d4.cells false false))]), (false, [.sl false [.i .i64 0, .s [], .sl false [.s [], .i .i64 0, .s []] [], .i .i64 0, .s [], .i .i64 0, .s [], .s [], .i .i64 0, .s []] (b.map (d4.cells false false))])] = some (True, [], .one (false, [.b (decide (a = b))])) := f7 _ (by rintro ⟨_, _⟩ ⟨_, _⟩ h; simp at h; simp_all) (a, b)
theorem b1q : OkC Tryz.prog 123 a4g := f8 _
def a7h : ACode := q' ([o' 2 (.box 4 (.t 0)), o' 3 (.box 4 (.t 1)), b' 4 false]) (.seq (q' ([f' 5 0 2, l' 6 5, f' 7 0 3, l' 8 7, o' 9 (.bin .neq (.t 6) (.t 8))]) (.cond (.t 9) (q'
 ([b' 4 false]) .ret) .skip)) (.seq (q' ([f' 10 1 2, e' 11 2 10, f' 12 1 3, e' 13 2 12, c' 14 122 [11, 13], o' 15 (.not (.t 14))]) (.cond (.t 15) (q' ([b' 4
 false]) .ret) .skip)) (.seq (q' ([f' 16 3 2, l' 17 16, f' 18 3 3, l' 19 18, c' 20 123 [17, 19], o' 21 (.not (.t 20))]) (.cond (.t 21) (q' ([b' 4 false]) .ret)
 .skip)) (q' ([b' 4 true]) .ret))))
theorem b5E : cmp Tryz.prog Tryz.f51 = some a7h := by kernel_rfl
theorem b8g (a : d3) (b : d3) : A0m Tryz.prog 51 [(true, [.i .i64 a.Kind, .s a.Head.Name, .sl false [.s [], .i .i64 0, .s []] (a.Head.Args.map c4.cells), .sl false [.i .i64 0, .s [], .sl false [.s [], .i .i64 0, .s []] [], .i .i64 0, .s [], .i .i64 0, .s [], .s [], .i .i64 0, .s []] (a.Body.map (d4.cells false false))]), (true, [.i .i64 b.Kind, .s b.Head.Name, .sl false [.s [], .i .i64 0, .s []] (b.Head.Args.map c4.cells), .sl false [.i .i64 0, .s [], .sl false [.s [], .i .i64 0, .s []] [], .i .i64 0, .s [], .i .i64 0, .s [], .s [], .i .i64 0, .s []] (b.Body.map (d4.cells false false))])] [] (.one (false, [.b (decide (a = b))])) := by
 refine spec_of2 false false none Tryz.func51 b5E (rvs := [.t 4]) (hΓ := mkCtx_ok (deep := false) (l := [(122, [], a1s), (123, [], a4g)]) ⟨a5h, b1q, trivial⟩) (h := ?_)
 intro hb hE
 simp only [go_sem] at hb
 simp only [a7h, x']
 (try refine A2Z ?_); simp only [go_sem]; (repeat' first | apply CJ.mk | intro hc); all_goals try ((repeat' first | apply And.intro | intro hs) <;> (try simp only [go_sem, Bool.and_eq_false_iff] at hs) <;> omega)
 all_goals (cases a; cases b; simp_all)
noncomputable def a4i : CT := j7 (fun (x : d3 × d3) => b8g x.1 x.2)
@[go_sem] theorem c5B (x0 : Int) (x1 : List UInt8) (x2 : List c4) (x3 : List d4) (x4 : Int) (x5 : List UInt8) (x6 : List c4) (x7 : List d4) : a4i [(true, [.i .i64 x0, .s x1, .sl false [.s [], .i .i64 0, .s []] (x2.map c4.cells), .sl false [.i .i64 0, .s [], .sl false [.s [], .i .i64 0, .s []] [], .i .i64 0, .s [], .i .i64 0, .s [], .s [], .i .i64 0, .s []] (x3.map (d4.cells false false))]), (true, [.i .i64 x4, .s x5, .sl false [.s [], .i .i64 0, .s []] (x6.map c4.cells), .sl false [.i .i64 0, .s [], .sl false [.s [], .i .i64 0, .s []] [], .i .i64 0, .s [], .i .i64 0, .s [], .s [], .i .i64 0, .s []] (x7.map (d4.cells false false))])] = some (True, [], .one (false, [.b (decide ((d3.mk x0 (d5.mk x1 x2) x3) = (d3.mk x4 (d5.mk x5 x6) x7)))])) := f7 _ (by rintro ⟨⟨_, ⟨_, _⟩, _⟩, ⟨_, ⟨_, _⟩, _⟩⟩ ⟨⟨_, ⟨_, _⟩, _⟩, ⟨_, ⟨_, _⟩, _⟩⟩ h; simp at h; simp_all) ((d3.mk x0 (d5.mk x1 x2) x3), (d3.mk x4 (d5.mk x5 x6) x7))
theorem b1s : OkC Tryz.prog 51 a4i := f8 _
end Go.Aw
