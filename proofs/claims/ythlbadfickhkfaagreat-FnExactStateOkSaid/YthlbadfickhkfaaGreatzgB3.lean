/- Programs: sizes, copies, equalities. No condition. -/
import Derived.Test.YthlbadfickhkfaaGreatzgB2
namespace Go.Aw
open Go.Proofs
attribute [local irreducible] aft blk lpK retK AW A0l
set_option linter.unusedVariables false
set_option linter.unusedSimpArgs false
set_option maxRecDepth 100000
def a4e (x : d5) : Nat := x.Name.length + (x.Args.length + l3 u5 x.Args)
def w3 (x : d3) : Nat := a4e x.Atom + u5 x.A + u5 x.B
def t7 (x : c6) : Nat := a4e x.Head + (x.Body.length + l3 w3 x.Body)
def w9 (x : c8) : Nat := x.Name.length
def a1h (x : c7) : Nat := (x.Decls.length + l3 w9 x.Decls) + (x.Rules.length + l3 t7 x.Rules)
def a7H : ACode := q' ([o' 2 (.box 2 (.t 0)), z' 4 0]) (q' ([m' 5 1, f' 6 0 2, l' 7 6, o' 8 (.lens (.t 7)), o' 9 (.bin .sub (.t 5) (.t 8)), m' 1 9]) (.seq (q' ([m' 10 1, o' 11
 (.bin .lss (.t 10) (k' 0))]) (.cond (.t 11) (q' ([o' 4 (.mov (.k (.v false [.c (.i .i64 (-1))])))]) .ret) .skip)) (q' ([f' 12 1 2, l' 13 12, m' 14 1, c' 15
 178 [13, 14], m' 1 15]) (.seq (q' ([m' 16 1, o' 17 (.bin .lss (.t 16) (k' 0))]) (.cond (.t 17) (q' ([o' 4 (.mov (.k (.v false [.c (.i .i64 (-1))])))]) .ret)
 .skip)) (q' ([m' 18 1, m' 4 18]) .ret)))))
theorem b6w : cmp Tryz.prog Tryz.f110 = some a7H := by kernel_rfl
theorem b8T (a : d5) (left : Int) (hpre : 0 ≤ left ∧ left ≤ 1048576) : A0l Tryz.prog 110 [(true, [.s a.Name, .sl false [.s [], .i .i64 0, .s []] (a.Args.map c4.cells)]), (false, [.i .i64 left])] [] (.one (false, [.i .i64 (szR left (a4e a : Nat))])) := by
 refine spec_of2 false false none Tryz.func110 b6w (rvs := [.t 4]) (hΓ := mkCtx_ok (deep := false) (l := [(178, [], a3i)]) ⟨b1j, trivial⟩) (h := ?_)
 intro hb hE
 simp only [go_sem] at hb
 simp only [a7H, x']
 (try refine A2V ?_); simp only [go_sem]; (repeat' first | apply CJ.mk | intro hc); all_goals try ((repeat' first | apply And.intro | intro hs) <;> (try simp only [go_sem, Bool.and_eq_false_iff] at hs) <;> omega)
 all_goals ((repeat (simp (disch := omega) only [t8] at *)) <;> (try simp only [szR, a4e] at *) <;> (first | omega | (split <;> omega)))
noncomputable def a1r : CT := o6 (fun (x : d5 × Int) h => b8T x.1 x.2 h)
@[go_sem] theorem c6t (x0 : List UInt8) (x1 : List c4) (x2 : Int) : a1r [(true, [.s x0, .sl false [.s [], .i .i64 0, .s []] (x1.map c4.cells)]), (false, [.i .i64 x2])] = some (0 ≤ x2 ∧ x2 ≤ 1048576, [], .one (false, [.i .i64 (szR x2 (a4e (d5.mk x0 x1) : Nat))])) := i6 _ (by rintro ⟨⟨_, _⟩, _⟩ ⟨⟨_, _⟩, _⟩ h; simp at h; simp_all) ((d5.mk x0 x1), x2)
theorem a5l : OkC Tryz.prog 110 a1r := i7 _
def a9q : ACode := q' ([o' 2 (.box 10 (.t 0)), z' 4 0]) (q' ([f' 5 1 2, e' 6 2 5, m' 7 1, c' 8 110 [6, 7], m' 1 8]) (.seq (q' ([m' 9 1, o' 10 (.bin .lss (.t 9) (k' 0))]) (.cond
 (.t 10) (q' ([o' 4 (.mov (.k (.v false [.c (.i .i64 (-1))])))]) .ret) .skip)) (q' ([f' 11 4 2, e' 12 3 11, m' 13 1, c' 14 263 [12, 13], m' 1 14]) (.seq (q'
 ([m' 15 1, o' 16 (.bin .lss (.t 15) (k' 0))]) (.cond (.t 16) (q' ([o' 4 (.mov (.k (.v false [.c (.i .i64 (-1))])))]) .ret) .skip)) (q' ([f' 17 7 2, e' 18 3
 17, m' 19 1, c' 20 263 [18, 19], m' 1 20]) (.seq (q' ([m' 21 1, o' 22 (.bin .lss (.t 21) (k' 0))]) (.cond (.t 22) (q' ([o' 4 (.mov (.k (.v false [.c (.i .i64
 (-1))])))]) .ret) .skip)) (q' ([m' 23 1, m' 4 23]) .ret)))))))
theorem b8p : cmp Tryz.prog Tryz.f179 = some a9q := by kernel_rfl
theorem c0K (a : d3) (left : Int) (hpre : 0 ≤ left ∧ left ≤ 1048576) : A0l Tryz.prog 179 [(true, [.i .i64 a.Kind, .s a.Atom.Name, .sl false [.s [], .i .i64 0, .s []] (a.Atom.Args.map c4.cells), .i .i64 a.Op, .s a.A.Var, .i .i64 a.A.Val.N, .s a.A.Val.S, .s a.B.Var, .i .i64 a.B.Val.N, .s a.B.Val.S]), (false, [.i .i64 left])] [] (.one (false, [.i .i64 (szR left (w3 a : Nat))])) := by
 refine spec_of2 false false none Tryz.func179 b8p (rvs := [.t 4]) (hΓ := mkCtx_ok (deep := false) (l := [(110, [], a1r), (263, [], a1s)]) ⟨a5l, a5m, trivial⟩) (h := ?_)
 intro hb hE
 simp only [go_sem] at hb
 simp only [a9q, x']
 (try refine A2V ?_); simp only [go_sem]; (repeat' first | apply CJ.mk | intro hc); all_goals try ((repeat' first | apply And.intro | intro hs) <;> (try simp only [go_sem, Bool.and_eq_false_iff] at hs) <;> omega)
 all_goals ((repeat (simp (disch := omega) only [t8] at *)) <;> (try simp only [szR, w3] at *) <;> (first | omega | (split <;> omega)))
noncomputable def a5V : CT := o6 (fun (x : d3 × Int) h => c0K x.1 x.2 h)
@[go_sem] theorem c7D (x0 : Int) (x1 : List UInt8) (x2 : List c4) (x3 : Int) (x4 : List UInt8) (x5 : Int) (x6 x7 : List UInt8) (x8 : Int) (x9 : List UInt8) (x10 : Int) : a5V [(true, [.i .i64 x0, .s x1, .sl false [.s [], .i .i64 0, .s []] (x2.map c4.cells), .i .i64 x3, .s x4, .i .i64 x5, .s x6, .s x7, .i .i64 x8, .s x9]), (false, [.i .i64 x10])] = some (0 ≤ x10 ∧ x10 ≤ 1048576, [], .one (false, [.i .i64 (szR x10 (w3 (d3.mk x0 (d5.mk x1 x2) x3 (c4.mk x4 (c9.mk x5 x6)) (c4.mk x7 (c9.mk x8 x9))) : Nat))])) := i6 _ (by rintro ⟨⟨_, ⟨_, _⟩, _, ⟨_, ⟨_, _⟩⟩, ⟨_, ⟨_, _⟩⟩⟩, _⟩ ⟨⟨_, ⟨_, _⟩, _, ⟨_, ⟨_, _⟩⟩, ⟨_, ⟨_, _⟩⟩⟩, _⟩ h; simp at h; simp_all) ((d3.mk x0 (d5.mk x1 x2) x3 (c4.mk x4 (c9.mk x5 x6)) (c4.mk x7 (c9.mk x8 x9))), x10)
theorem b4f : OkC Tryz.prog 179 a5V := i7 _
def a7J : ACode := q' ([z' 4 0]) (q' ([m' 6 1, m' 7 0, n' 8 7, o' 9 (.bin .sub (.t 6) (.t 8)), m' 1 9]) (.seq (q' ([m' 10 1, o' 11 (.bin .lss (.t 10) (k' 0))]) (.cond (.t 11) (q'
 ([o' 4 (.mov (.k (.v false [.c (.i .i64 (-1))])))]) .ret) .skip)) (.seq (q' ([z' 5 0]) (.block 0 (.loop (.seq (q' ([m' 12 5, m' 13 0, n' 14 13, r' 15 12 14])
 (.cond (.t 15) .skip (.exit 0))) (.seq (.block 1 (q' ([m' 18 0, m' 19 5, i' 20 10 18 19, e' 21 10 20, m' 22 1, c' 23 179 [21, 22], m' 1 23]) (q' ([m' 24 1, o'
 25 (.bin .lss (.t 24) (k' 0))]) (.cond (.t 25) (q' ([o' 4 (.mov (.k (.v false [.c (.i .i64 (-1))])))]) .ret) .skip)))) (g' [m' 16 5, a' 17 16, m' 5 17]))))))
 (q' ([m' 26 1, m' 4 26]) .ret))))
theorem b6y : cmp Tryz.prog Tryz.f111 = some a7J := by kernel_rfl
theorem b8V (a : List d3) (left : Int) (hpre : 0 ≤ left ∧ left ≤ 1048576) : A0l Tryz.prog 111 [(false, [.sl false [.i .i64 0, .s [], .sl false [.s [], .i .i64 0, .s []] [], .i .i64 0, .s [], .i .i64 0, .s [], .s [], .i .i64 0, .s []] (a.map (d3.cells false false))]), (false, [.i .i64 left])] [] (.one (false, [.i .i64 (szR left ((a.length + l3 w3 a) : Nat))])) := by
 refine spec_of2 false false none Tryz.func111 b6y (rvs := [.t 4]) (hΓ := mkCtx_ok (deep := false) (l := [(179, [], a5V)]) ⟨b4f, trivial⟩) (h := ?_)
 intro hb hE
 simp only [go_sem] at hb
 simp only [a7J, x']
 (try refine A2V ?_); simp only [go_sem]; (repeat' first | apply CJ.mk | intro hc); all_goals try ((repeat' first | apply And.intro | intro hs) <;> (try simp only [go_sem, Bool.and_eq_false_iff] at hs) <;> omega)
 ·all_goals ((repeat (simp (disch := omega) only [t8] at *)) <;> (try simp only [szR, szR] at *) <;> (first | omega | (split <;> omega)))
 have hw := t8 (l := left) (n := a.length) (by omega) (by omega) (by omega) (by omega)
 rw [hw] at hc
 refine aw_loop2 false [] [0] [] [] (fun i : {i : Nat // i ≤ a.length ∧ (a.length : Int) + (l3 w3 (a.take i) : Nat) ≤ left} => [(5, slV (.i .i64 i.1)), (1, slV (.i .i64 (left - a.length - (l3 w3 (a.take i.1) : Nat))))]) (fun i => []) (fun i => []) (fun i => a.length - i.1) (⟨0, by simp only [List.take_zero, a1H]; omega⟩) _ rfl ?_ ?_
 ·simp only [go_sem, hw]
  all_goals first | omega | ((repeat' apply And.intro) <;> first | omega | rfl | skip)
 intro S0 hS0 i
 simp only [go_sem, hw] at hS0
 obtain ⟨i, hi, ht⟩ := i
 (try refine A2V ?_); simp only [go_sem, hw, hS0]; (repeat' first | apply CJ.mk | intro hc); all_goals try ((repeat' first | apply And.intro | intro hs) <;> (try simp only [go_sem, Bool.and_eq_false_iff] at hs) <;> omega)
 ·have h1 := j3 w3 (default : d3) (show i < a.length by omega)
  have h2 := u3 w3 a (i + 1)
  all_goals ((repeat (simp (disch := omega) only [t8] at *)) <;> (try simp only [szR, szR] at *) <;> (first | omega | (split <;> omega)))
 ·have h1 := j3 w3 (default : d3) (show i < a.length by omega)
  (refine lpK_n2 (⟨i + 1, by omega, by unfold szR at hc; split at hc <;> omega⟩) _ rfl ?_; simp only [go_sem, hw, hS0]; first | done | ((repeat' apply And.intro) <;> first | omega | (refine w64 ?_ ?_ ?_ <;> omega) | rfl | skip))
  rw [h1]
  unfold szR at hc ⊢
  split at hc <;> omega
 ·have h1 := a3y w3 (show ¬ i < a.length by omega)
  all_goals ((repeat (simp (disch := omega) only [t8] at *)) <;> (try simp only [szR, szR] at *) <;> (first | omega | (split <;> omega)))
 all_goals all_goals ((repeat (simp (disch := omega) only [t8] at *)) <;> (try simp only [szR, szR] at *) <;> (first | omega | (split <;> omega)))
noncomputable def a4q : CT := o6 (fun (x : (List d3) × Int) h => b8V x.1 x.2 h)
@[go_sem] theorem c6v (a : List d3) (x0 : Int) : a4q [(false, [.sl false [.i .i64 0, .s [], .sl false [.s [], .i .i64 0, .s []] [], .i .i64 0, .s [], .i .i64 0, .s [], .s [], .i .i64 0, .s []] (a.map (d3.cells false false))]), (false, [.i .i64 x0])] = some (0 ≤ x0 ∧ x0 ≤ 1048576, [], .one (false, [.i .i64 (szR x0 ((a.length + l3 w3 a) : Nat))])) := i6 _ (by rintro ⟨_, _⟩ ⟨_, _⟩ h; simp at h; simp_all) (a, x0)
theorem b2w : OkC Tryz.prog 111 a4q := i7 _
def a7L : ACode := q' ([o' 2 (.box 4 (.t 0)), z' 4 0]) (q' ([f' 5 1 2, e' 6 2 5, m' 7 1, c' 8 110 [6, 7], m' 1 8]) (.seq (q' ([m' 9 1, o' 10 (.bin .lss (.t 9) (k' 0))]) (.cond (.t
 10) (q' ([o' 4 (.mov (.k (.v false [.c (.i .i64 (-1))])))]) .ret) .skip)) (q' ([f' 11 3 2, l' 12 11, m' 13 1, c' 14 111 [12, 13], m' 1 14]) (.seq (q' ([m' 15
 1, o' 16 (.bin .lss (.t 15) (k' 0))]) (.cond (.t 16) (q' ([o' 4 (.mov (.k (.v false [.c (.i .i64 (-1))])))]) .ret) .skip)) (q' ([m' 17 1, m' 4 17]) .ret)))))
theorem b6A : cmp Tryz.prog Tryz.f46 = some a7L := by kernel_rfl
theorem b8X (a : c6) (left : Int) (hpre : 0 ≤ left ∧ left ≤ 1048576) : A0l Tryz.prog 46 [(true, [.i .i64 a.Kind, .s a.Head.Name, .sl false [.s [], .i .i64 0, .s []] (a.Head.Args.map c4.cells), .sl false [.i .i64 0, .s [], .sl false [.s [], .i .i64 0, .s []] [], .i .i64 0, .s [], .i .i64 0, .s [], .s [], .i .i64 0, .s []] (a.Body.map (d3.cells false false))]), (false, [.i .i64 left])] [] (.one (false, [.i .i64 (szR left (t7 a : Nat))])) := by
 refine spec_of2 false false none Tryz.func46 b6A (rvs := [.t 4]) (hΓ := mkCtx_ok (deep := false) (l := [(110, [], a1r), (111, [], a4q)]) ⟨a5l, b2w, trivial⟩) (h := ?_)
 intro hb hE
 simp only [go_sem] at hb
 simp only [a7L, x']
 (try refine A2V ?_); simp only [go_sem]; (repeat' first | apply CJ.mk | intro hc); all_goals try ((repeat' first | apply And.intro | intro hs) <;> (try simp only [go_sem, Bool.and_eq_false_iff] at hs) <;> omega)
 all_goals ((repeat (simp (disch := omega) only [t8] at *)) <;> (try simp only [szR, t7] at *) <;> (first | omega | (split <;> omega)))
noncomputable def a4s : CT := o6 (fun (x : c6 × Int) h => b8X x.1 x.2 h)
@[go_sem] theorem c6x (x0 : Int) (x1 : List UInt8) (x2 : List c4) (x3 : List d3) (x4 : Int) : a4s [(true, [.i .i64 x0, .s x1, .sl false [.s [], .i .i64 0, .s []] (x2.map c4.cells), .sl false [.i .i64 0, .s [], .sl false [.s [], .i .i64 0, .s []] [], .i .i64 0, .s [], .i .i64 0, .s [], .s [], .i .i64 0, .s []] (x3.map (d3.cells false false))]), (false, [.i .i64 x4])] = some (0 ≤ x4 ∧ x4 ≤ 1048576, [], .one (false, [.i .i64 (szR x4 (t7 (c6.mk x0 (d5.mk x1 x2) x3) : Nat))])) := i6 _ (by rintro ⟨⟨_, ⟨_, _⟩, _⟩, _⟩ ⟨⟨_, ⟨_, _⟩, _⟩, _⟩ h; simp at h; simp_all) ((c6.mk x0 (d5.mk x1 x2) x3), x4)
theorem b2y : OkC Tryz.prog 46 a4s := i7 _
def a6J : ACode := q' ([z' 4 0]) (q' ([m' 6 1, m' 7 0, n' 8 7, o' 9 (.bin .sub (.t 6) (.t 8)), m' 1 9]) (.seq (q' ([m' 10 1, o' 11 (.bin .lss (.t 10) (k' 0))]) (.cond (.t 11) (q'
 ([o' 4 (.mov (.k (.v false [.c (.i .i64 (-1))])))]) .ret) .skip)) (.seq (q' ([z' 5 0]) (.block 0 (.loop (.seq (q' ([m' 12 5, m' 13 0, n' 14 13, r' 15 12 14])
 (.cond (.t 15) .skip (.exit 0))) (.seq (.block 1 (q' ([m' 18 0, m' 19 5, i' 20 4 18 19, e' 21 4 20, m' 22 1, c' 23 46 [21, 22], m' 1 23]) (q' ([m' 24 1, o' 25
 (.bin .lss (.t 24) (k' 0))]) (.cond (.t 25) (q' ([o' 4 (.mov (.k (.v false [.c (.i .i64 (-1))])))]) .ret) .skip)))) (g' [m' 16 5, a' 17 16, m' 5 17])))))) (q'
 ([m' 26 1, m' 4 26]) .ret))))
theorem b4I : cmp Tryz.prog Tryz.f61 = some a6J := by kernel_rfl
theorem b7p (a : List c6) (left : Int) (hpre : 0 ≤ left ∧ left ≤ 1048576) : A0l Tryz.prog 61 [(false, [.sl false [.i .i64 0, .s [], .sl false [.s [], .i .i64 0, .s []] [], .sl false [.i .i64 0, .s [], .sl false [.s [], .i .i64 0, .s []] [], .i .i64 0, .s [], .i .i64 0, .s [], .s [], .i .i64 0, .s []] []] (a.map (c6.cells false false))]), (false, [.i .i64 left])] [] (.one (false, [.i .i64 (szR left ((a.length + l3 t7 a) : Nat))])) := by
 refine spec_of2 false false none Tryz.func61 b4I (rvs := [.t 4]) (hΓ := mkCtx_ok (deep := false) (l := [(46, [], a4s)]) ⟨b2y, trivial⟩) (h := ?_)
 intro hb hE
 simp only [go_sem] at hb
 simp only [a6J, x']
 (try refine A2V ?_); simp only [go_sem]; (repeat' first | apply CJ.mk | intro hc); all_goals try ((repeat' first | apply And.intro | intro hs) <;> (try simp only [go_sem, Bool.and_eq_false_iff] at hs) <;> omega)
 ·all_goals ((repeat (simp (disch := omega) only [t8] at *)) <;> (try simp only [szR, szR] at *) <;> (first | omega | (split <;> omega)))
 have hw := t8 (l := left) (n := a.length) (by omega) (by omega) (by omega) (by omega)
 rw [hw] at hc
 refine aw_loop2 false [] [0] [] [] (fun i : {i : Nat // i ≤ a.length ∧ (a.length : Int) + (l3 t7 (a.take i) : Nat) ≤ left} => [(5, slV (.i .i64 i.1)), (1, slV (.i .i64 (left - a.length - (l3 t7 (a.take i.1) : Nat))))]) (fun i => []) (fun i => []) (fun i => a.length - i.1) (⟨0, by simp only [List.take_zero, a1H]; omega⟩) _ rfl ?_ ?_
 ·simp only [go_sem, hw]
  all_goals first | omega | ((repeat' apply And.intro) <;> first | omega | rfl | skip)
 intro S0 hS0 i
 simp only [go_sem, hw] at hS0
 obtain ⟨i, hi, ht⟩ := i
 (try refine A2V ?_); simp only [go_sem, hw, hS0]; (repeat' first | apply CJ.mk | intro hc); all_goals try ((repeat' first | apply And.intro | intro hs) <;> (try simp only [go_sem, Bool.and_eq_false_iff] at hs) <;> omega)
 ·have h1 := j3 t7 (default : c6) (show i < a.length by omega)
  have h2 := u3 t7 a (i + 1)
  all_goals ((repeat (simp (disch := omega) only [t8] at *)) <;> (try simp only [szR, szR] at *) <;> (first | omega | (split <;> omega)))
 ·have h1 := j3 t7 (default : c6) (show i < a.length by omega)
  (refine lpK_n2 (⟨i + 1, by omega, by unfold szR at hc; split at hc <;> omega⟩) _ rfl ?_; simp only [go_sem, hw, hS0]; first | done | ((repeat' apply And.intro) <;> first | omega | (refine w64 ?_ ?_ ?_ <;> omega) | rfl | skip))
  rw [h1]
  unfold szR at hc ⊢
  split at hc <;> omega
 ·have h1 := a3y t7 (show ¬ i < a.length by omega)
  all_goals ((repeat (simp (disch := omega) only [t8] at *)) <;> (try simp only [szR, szR] at *) <;> (first | omega | (split <;> omega)))
 all_goals all_goals ((repeat (simp (disch := omega) only [t8] at *)) <;> (try simp only [szR, szR] at *) <;> (first | omega | (split <;> omega)))
noncomputable def a3g : CT := o6 (fun (x : (List c6) × Int) h => b7p x.1 x.2 h)
@[go_sem] theorem c4T (a : List c6) (x0 : Int) : a3g [(false, [.sl false [.i .i64 0, .s [], .sl false [.s [], .i .i64 0, .s []] [], .sl false [.i .i64 0, .s [], .sl false [.s [], .i .i64 0, .s []] [], .i .i64 0, .s [], .i .i64 0, .s [], .s [], .i .i64 0, .s []] []] (a.map (c6.cells false false))]), (false, [.i .i64 x0])] = some (0 ≤ x0 ∧ x0 ≤ 1048576, [], .one (false, [.i .i64 (szR x0 ((a.length + l3 t7 a) : Nat))])) := i6 _ (by rintro ⟨_, _⟩ ⟨_, _⟩ h; simp at h; simp_all) (a, x0)
theorem b1h : OkC Tryz.prog 61 a3g := i7 _
def a7I : ACode := q' ([o' 2 (.box 3 (.t 0)), z' 4 0]) (q' ([m' 5 1, f' 6 1 2, l' 7 6, o' 8 (.lens (.t 7)), o' 9 (.bin .sub (.t 5) (.t 8)), m' 1 9]) (.seq (q' ([m' 10 1, o' 11
 (.bin .lss (.t 10) (k' 0))]) (.cond (.t 11) (q' ([o' 4 (.mov (.k (.v false [.c (.i .i64 (-1))])))]) .ret) .skip)) (q' ([m' 12 1, m' 4 12]) .ret)))
theorem b6x : cmp Tryz.prog Tryz.f133 = some a7I := by kernel_rfl
theorem b8U (a : c8) (left : Int) (hpre : 0 ≤ left ∧ left ≤ 1048576) : A0l Tryz.prog 133 [(true, [.i .i64 a.Kind, .s a.Name, .i .i64 a.Arity]), (false, [.i .i64 left])] [] (.one (false, [.i .i64 (szR left (w9 a : Nat))])) := by
 refine spec_of2 false false none Tryz.func133 b6x (rvs := [.t 4]) (hΓ := mkCtx_ok (deep := false) (l := []) trivial) (h := ?_)
 intro hb hE
 simp only [go_sem] at hb
 simp only [a7I, x']
 (try refine A2V ?_); simp only [go_sem]; (repeat' first | apply CJ.mk | intro hc); all_goals try ((repeat' first | apply And.intro | intro hs) <;> (try simp only [go_sem, Bool.and_eq_false_iff] at hs) <;> omega)
 all_goals ((repeat (simp (disch := omega) only [t8] at *)) <;> (try simp only [szR, w9] at *) <;> (first | omega | (split <;> omega)))
noncomputable def a4p : CT := o6 (fun (x : c8 × Int) h => b8U x.1 x.2 h)
@[go_sem] theorem c6u (x0 : Int) (x1 : List UInt8) (x2 x3 : Int) : a4p [(true, [.i .i64 x0, .s x1, .i .i64 x2]), (false, [.i .i64 x3])] = some (0 ≤ x3 ∧ x3 ≤ 1048576, [], .one (false, [.i .i64 (szR x3 (w9 (c8.mk x0 x1 x2) : Nat))])) := i6 _ (by rintro ⟨⟨_, _, _⟩, _⟩ ⟨⟨_, _, _⟩, _⟩ h; simp at h; simp_all) ((c8.mk x0 x1 x2), x3)
theorem b2v : OkC Tryz.prog 133 a4p := i7 _
def a6H : ACode := q' ([z' 4 0]) (q' ([m' 6 1, m' 7 0, n' 8 7, o' 9 (.bin .sub (.t 6) (.t 8)), m' 1 9]) (.seq (q' ([m' 10 1, o' 11 (.bin .lss (.t 10) (k' 0))]) (.cond (.t 11) (q'
 ([o' 4 (.mov (.k (.v false [.c (.i .i64 (-1))])))]) .ret) .skip)) (.seq (q' ([z' 5 0]) (.block 0 (.loop (.seq (q' ([m' 12 5, m' 13 0, n' 14 13, r' 15 12 14])
 (.cond (.t 15) .skip (.exit 0))) (.seq (.block 1 (q' ([m' 18 0, m' 19 5, i' 20 3 18 19, e' 21 3 20, m' 22 1, c' 23 133 [21, 22], m' 1 23]) (q' ([m' 24 1, o'
 25 (.bin .lss (.t 24) (k' 0))]) (.cond (.t 25) (q' ([o' 4 (.mov (.k (.v false [.c (.i .i64 (-1))])))]) .ret) .skip)))) (g' [m' 16 5, a' 17 16, m' 5 17]))))))
 (q' ([m' 26 1, m' 4 26]) .ret))))
theorem b4G : cmp Tryz.prog Tryz.f60 = some a6H := by kernel_rfl
theorem b7n (a : List c8) (left : Int) (hpre : 0 ≤ left ∧ left ≤ 1048576) : A0l Tryz.prog 60 [(false, [.sl false [.i .i64 0, .s [], .i .i64 0] (a.map c8.cells)]), (false, [.i .i64 left])] [] (.one (false, [.i .i64 (szR left ((a.length + l3 w9 a) : Nat))])) := by
 refine spec_of2 false false none Tryz.func60 b4G (rvs := [.t 4]) (hΓ := mkCtx_ok (deep := false) (l := [(133, [], a4p)]) ⟨b2v, trivial⟩) (h := ?_)
 intro hb hE
 simp only [go_sem] at hb
 simp only [a6H, x']
 (try refine A2V ?_); simp only [go_sem]; (repeat' first | apply CJ.mk | intro hc); all_goals try ((repeat' first | apply And.intro | intro hs) <;> (try simp only [go_sem, Bool.and_eq_false_iff] at hs) <;> omega)
 ·all_goals ((repeat (simp (disch := omega) only [t8] at *)) <;> (try simp only [szR, szR] at *) <;> (first | omega | (split <;> omega)))
 have hw := t8 (l := left) (n := a.length) (by omega) (by omega) (by omega) (by omega)
 rw [hw] at hc
 refine aw_loop2 false [] [0] [] [] (fun i : {i : Nat // i ≤ a.length ∧ (a.length : Int) + (l3 w9 (a.take i) : Nat) ≤ left} => [(5, slV (.i .i64 i.1)), (1, slV (.i .i64 (left - a.length - (l3 w9 (a.take i.1) : Nat))))]) (fun i => []) (fun i => []) (fun i => a.length - i.1) (⟨0, by simp only [List.take_zero, a1H]; omega⟩) _ rfl ?_ ?_
 ·simp only [go_sem, hw]
  all_goals first | omega | ((repeat' apply And.intro) <;> first | omega | rfl | skip)
 intro S0 hS0 i
 simp only [go_sem, hw] at hS0
 obtain ⟨i, hi, ht⟩ := i
 (try refine A2V ?_); simp only [go_sem, hw, hS0]; (repeat' first | apply CJ.mk | intro hc); all_goals try ((repeat' first | apply And.intro | intro hs) <;> (try simp only [go_sem, Bool.and_eq_false_iff] at hs) <;> omega)
 ·have h1 := j3 w9 (default : c8) (show i < a.length by omega)
  have h2 := u3 w9 a (i + 1)
  all_goals ((repeat (simp (disch := omega) only [t8] at *)) <;> (try simp only [szR, szR] at *) <;> (first | omega | (split <;> omega)))
 ·have h1 := j3 w9 (default : c8) (show i < a.length by omega)
  (refine lpK_n2 (⟨i + 1, by omega, by unfold szR at hc; split at hc <;> omega⟩) _ rfl ?_; simp only [go_sem, hw, hS0]; first | done | ((repeat' apply And.intro) <;> first | omega | (refine w64 ?_ ?_ ?_ <;> omega) | rfl | skip))
  rw [h1]
  unfold szR at hc ⊢
  split at hc <;> omega
 ·have h1 := a3y w9 (show ¬ i < a.length by omega)
  all_goals ((repeat (simp (disch := omega) only [t8] at *)) <;> (try simp only [szR, szR] at *) <;> (first | omega | (split <;> omega)))
 all_goals all_goals ((repeat (simp (disch := omega) only [t8] at *)) <;> (try simp only [szR, szR] at *) <;> (first | omega | (split <;> omega)))
noncomputable def a3e : CT := o6 (fun (x : (List c8) × Int) h => b7n x.1 x.2 h)
@[go_sem] theorem c4R (a : List c8) (x0 : Int) : a3e [(false, [.sl false [.i .i64 0, .s [], .i .i64 0] (a.map c8.cells)]), (false, [.i .i64 x0])] = some (0 ≤ x0 ∧ x0 ≤ 1048576, [], .one (false, [.i .i64 (szR x0 ((a.length + l3 w9 a) : Nat))])) := i6 _ (by rintro ⟨_, _⟩ ⟨_, _⟩ h; simp at h; simp_all) (a, x0)
theorem b1f : OkC Tryz.prog 60 a3e := i7 _
def a3F : ACode := q' ([o' 2 (.box 2 (.t 0)), z' 4 0]) (q' ([f' 5 0 2, l' 6 5, m' 7 1, c' 8 60 [6, 7], m' 1 8]) (.seq (q' ([m' 9 1, o' 10 (.bin .lss (.t 9) (k' 0))]) (.cond (.t
 10) (q' ([o' 4 (.mov (.k (.v false [.c (.i .i64 (-1))])))]) .ret) .skip)) (q' ([f' 11 1 2, l' 12 11, m' 13 1, c' 14 61 [12, 13], m' 1 14]) (.seq (q' ([m' 15
 1, o' 16 (.bin .lss (.t 15) (k' 0))]) (.cond (.t 16) (q' ([o' 4 (.mov (.k (.v false [.c (.i .i64 (-1))])))]) .ret) .skip)) (q' ([m' 17 1, m' 4 17]) .ret)))))
theorem b1B : cmp Tryz.prog Tryz.f12 = some a3F := by kernel_rfl
theorem b3q (a : c7) (left : Int) (hpre : 0 ≤ left ∧ left ≤ 1048576) : A0l Tryz.prog 12 [(true, [.sl false [.i .i64 0, .s [], .i .i64 0] (a.Decls.map c8.cells), .sl false [.i .i64 0, .s [], .sl false [.s [], .i .i64 0, .s []] [], .sl false [.i .i64 0, .s [], .sl false [.s [], .i .i64 0, .s []] [], .i .i64 0, .s [], .i .i64 0, .s [], .s [], .i .i64 0, .s []] []] (a.Rules.map (c6.cells false false))]), (false, [.i .i64 left])] [] (.one (false, [.i .i64 (szR left (a1h a : Nat))])) := by
 refine spec_of2 false false none Tryz.func12 b1B (rvs := [.t 4]) (hΓ := mkCtx_ok (deep := false) (l := [(60, [], a3e), (61, [], a3g)]) ⟨b1f, b1h, trivial⟩) (h := ?_)
 intro hb hE
 simp only [go_sem] at hb
 simp only [a3F, x']
 (try refine A2V ?_); simp only [go_sem]; (repeat' first | apply CJ.mk | intro hc); all_goals try ((repeat' first | apply And.intro | intro hs) <;> (try simp only [go_sem, Bool.and_eq_false_iff] at hs) <;> omega)
 all_goals ((repeat (simp (disch := omega) only [t8] at *)) <;> (try simp only [szR, a1h] at *) <;> (first | omega | (split <;> omega)))
noncomputable def a0X : CT := o6 (fun (x : c7 × Int) h => b3q x.1 x.2 h)
@[go_sem] theorem c2F (x0 : List c8) (x1 : List c6) (x2 : Int) : a0X [(true, [.sl false [.i .i64 0, .s [], .i .i64 0] (x0.map c8.cells), .sl false [.i .i64 0, .s [], .sl false [.s [], .i .i64 0, .s []] [], .sl false [.i .i64 0, .s [], .sl false [.s [], .i .i64 0, .s []] [], .i .i64 0, .s [], .i .i64 0, .s [], .s [], .i .i64 0, .s []] []] (x1.map (c6.cells false false))]), (false, [.i .i64 x2])] = some (0 ≤ x2 ∧ x2 ≤ 1048576, [], .one (false, [.i .i64 (szR x2 (a1h (c7.mk x0 x1) : Nat))])) := i6 _ (by rintro ⟨⟨_, _⟩, _⟩ ⟨⟨_, _⟩, _⟩ h; simp at h; simp_all) ((c7.mk x0 x1), x2)
theorem a8T : OkC Tryz.prog 12 a0X := i7 _
def a7N : ACode := q' ([o' 1 (.box 2 (.t 0)), w' 2 [.s, .sl [.s [], .i .i64 0, .s []]]]) (q' ([w' 3 [.s, .sl [.s [], .i .i64 0, .s []]]]) (q' ([f' 4 0 1, l' 5 4, f' 6 0 3, s' 1 6
 5]) (q' ([f' 7 1 1, l' 8 7, c' 9 189 [8], f' 10 1 3, s' 1 10 9]) (q' ([e' 11 2 3, s' 2 2 11]) .ret))))
theorem b6C : cmp Tryz.prog Tryz.f115 = some a7N := by kernel_rfl
theorem b8Z (a : d5) (hpre : (a4e a : Int) ≤ 1048576) : A0l Tryz.prog 115 [(true, [.s a.Name, .sl false [.s [], .i .i64 0, .s []] (a.Args.map c4.cells)])] [] (.one (true, [.s a.Name, .sl true [.s [], .i .i64 0, .s []] (a.Args.map c4.cells)])) := by
 refine spec_of2 true false none Tryz.func115 b6C (rvs := [.c 2 true 2]) (hΓ := mkCtx_ok (deep := true) (l := [(189, [], a3n)]) ⟨b1o, trivial⟩) (h := ?_)
 intro hb hE
 simp only [go_sem] at hb
 simp only [a7N, x']
 (try refine A2V ?_); simp only [go_sem]; (repeat' first | apply CJ.mk | intro hc); all_goals try ((repeat' first | apply And.intro | intro hs) <;> (try simp only [go_sem, Bool.and_eq_false_iff] at hs) <;> omega)
 all_goals (simp only [a4e] at *; omega)
noncomputable def a1t : CT := o6 (fun (x : d5) h => b8Z x h)
@[go_sem] theorem c6z (x0 : List UInt8) (x1 : List c4) : a1t [(true, [.s x0, .sl false [.s [], .i .i64 0, .s []] (x1.map c4.cells)])] = some ((a4e (d5.mk x0 x1) : Int) ≤ 1048576, [], .one (true, [.s ((d5.mk x0 x1).Name), .sl true [.s [], .i .i64 0, .s []] (((d5.mk x0 x1).Args).map c4.cells)])) := i6 _ (by rintro ⟨_, _⟩ ⟨_, _⟩ h; simp at h; simp_all) (d5.mk x0 x1)
theorem a5n : OkC Tryz.prog 115 a1t := i7 _
def a9t : ACode := q' ([o' 1 (.box 10 (.t 0)), w' 2 [.i .i64, .s, .sl [.s [], .i .i64 0, .s []], .i .i64, .s, .i .i64, .s, .s, .i .i64, .s]]) (q' ([w' 3 [.i .i64, .s, .sl [.s [],
 .i .i64 0, .s []], .i .i64, .s, .i .i64, .s, .s, .i .i64, .s]]) (q' ([f' 4 0 1, l' 5 4, f' 6 0 3, s' 1 6 5]) (q' ([f' 7 1 1, e' 8 2 7, c' 9 115 [8], f' 10 1
 3, s' 2 10 9]) (q' ([f' 11 3 1, l' 12 11, f' 13 3 3, s' 1 13 12]) (q' ([f' 14 4 1, e' 15 3 14, c' 16 272 [15], f' 17 4 3, s' 3 17 16]) (q' ([f' 18 7 1, e' 19
 3 18, c' 20 272 [19], f' 21 7 3, s' 3 21 20]) (q' ([e' 22 10 3, s' 10 2 22]) .ret)))))))
theorem b8s : cmp Tryz.prog Tryz.f190 = some a9t := by kernel_rfl
theorem c0N (a : d3) (hpre : (w3 a : Int) ≤ 1048576) : A0l Tryz.prog 190 [(true, [.i .i64 a.Kind, .s a.Atom.Name, .sl false [.s [], .i .i64 0, .s []] (a.Atom.Args.map c4.cells), .i .i64 a.Op, .s a.A.Var, .i .i64 a.A.Val.N, .s a.A.Val.S, .s a.B.Var, .i .i64 a.B.Val.N, .s a.B.Val.S])] [] (.one (true, [.i .i64 a.Kind, .s a.Atom.Name, .sl true [.s [], .i .i64 0, .s []] (a.Atom.Args.map c4.cells), .i .i64 a.Op, .s a.A.Var, .i .i64 a.A.Val.N, .s a.A.Val.S, .s a.B.Var, .i .i64 a.B.Val.N, .s a.B.Val.S])) := by
 refine spec_of2 true false none Tryz.func190 b8s (rvs := [.c 2 true 10]) (hΓ := mkCtx_ok (deep := true) (l := [(115, [], a1t), (272, [], a1u)]) ⟨a5n, a5o, trivial⟩) (h := ?_)
 intro hb hE
 simp only [go_sem] at hb
 simp only [a9t, x']
 (try refine A2V ?_); simp only [go_sem]; (repeat' first | apply CJ.mk | intro hc); all_goals try ((repeat' first | apply And.intro | intro hs) <;> (try simp only [go_sem, Bool.and_eq_false_iff] at hs) <;> omega)
 all_goals (simp only [w3] at *; omega)
noncomputable def a5Y : CT := o6 (fun (x : d3) h => c0N x h)
@[go_sem] theorem c7G (x0 : Int) (x1 : List UInt8) (x2 : List c4) (x3 : Int) (x4 : List UInt8) (x5 : Int) (x6 x7 : List UInt8) (x8 : Int) (x9 : List UInt8) : a5Y [(true, [.i .i64 x0, .s x1, .sl false [.s [], .i .i64 0, .s []] (x2.map c4.cells), .i .i64 x3, .s x4, .i .i64 x5, .s x6, .s x7, .i .i64 x8, .s x9])] = some ((w3 (d3.mk x0 (d5.mk x1 x2) x3 (c4.mk x4 (c9.mk x5 x6)) (c4.mk x7 (c9.mk x8 x9))) : Int) ≤ 1048576, [], .one (true, [.i .i64 ((d3.mk x0 (d5.mk x1 x2) x3 (c4.mk x4 (c9.mk x5 x6)) (c4.mk x7 (c9.mk x8 x9))).Kind), .s (((d3.mk x0 (d5.mk x1 x2) x3 (c4.mk x4 (c9.mk x5 x6)) (c4.mk x7 (c9.mk x8 x9))).Atom).Name), .sl true [.s [], .i .i64 0, .s []] ((((d3.mk x0 (d5.mk x1 x2) x3 (c4.mk x4 (c9.mk x5 x6)) (c4.mk x7 (c9.mk x8 x9))).Atom).Args).map c4.cells), .i .i64 ((d3.mk x0 (d5.mk x1 x2) x3 (c4.mk x4 (c9.mk x5 x6)) (c4.mk x7 (c9.mk x8 x9))).Op), .s (((d3.mk x0 (d5.mk x1 x2) x3 (c4.mk x4 (c9.mk x5 x6)) (c4.mk x7 (c9.mk x8 x9))).A).Var), .i .i64 ((((d3.mk x0 (d5.mk x1 x2) x3 (c4.mk x4 (c9.mk x5 x6)) (c4.mk x7 (c9.mk x8 x9))).A).Val).N), .s ((((d3.mk x0 (d5.mk x1 x2) x3 (c4.mk x4 (c9.mk x5 x6)) (c4.mk x7 (c9.mk x8 x9))).A).Val).S), .s (((d3.mk x0 (d5.mk x1 x2) x3 (c4.mk x4 (c9.mk x5 x6)) (c4.mk x7 (c9.mk x8 x9))).B).Var), .i .i64 ((((d3.mk x0 (d5.mk x1 x2) x3 (c4.mk x4 (c9.mk x5 x6)) (c4.mk x7 (c9.mk x8 x9))).B).Val).N), .s ((((d3.mk x0 (d5.mk x1 x2) x3 (c4.mk x4 (c9.mk x5 x6)) (c4.mk x7 (c9.mk x8 x9))).B).Val).S)])) := i6 _ (by rintro ⟨_, ⟨_, _⟩, _, ⟨_, ⟨_, _⟩⟩, ⟨_, ⟨_, _⟩⟩⟩ ⟨_, ⟨_, _⟩, _, ⟨_, ⟨_, _⟩⟩, ⟨_, ⟨_, _⟩⟩⟩ h; simp at h; simp_all) (d3.mk x0 (d5.mk x1 x2) x3 (c4.mk x4 (c9.mk x5 x6)) (c4.mk x7 (c9.mk x8 x9)))
theorem b4i : OkC Tryz.prog 190 a5Y := i7 _
def a7P : ACode := q' ([o' 2 (.mov (.k (.v false [.nl [.i .i64 0, .s [], .sl false [.s [], .i .i64 0, .s []] [], .i .i64 0, .s [], .i .i64 0, .s [], .s [], .i .i64 0, .s []]])))])
 (q' ([m' 5 0, n' 6 5, o' 7 (.mks 10 136 [.i .i64, .s, .sl [.s [], .i .i64 0, .s []], .i .i64, .s, .i .i64, .s, .s, .i .i64, .s] (.t 6) (.t 6)), m' 3 7]) (.seq
 (q' ([z' 4 0]) (.block 0 (.loop (.seq (q' ([m' 8 4, m' 9 0, n' 10 9, r' 11 8 10]) (.cond (.t 11) .skip (.exit 0))) (.seq (.block 1 (g' [m' 14 3, m' 15 4, m'
 16 0, m' 17 4, i' 18 10 16 17, e' 19 10 18, c' 20 190 [19], i' 21 10 14 15, s' 10 21 20])) (g' [m' 12 4, a' 13 12, m' 4 13])))))) (q' ([m' 22 3, m' 2 22])
 .ret)))
theorem b6E : cmp Tryz.prog Tryz.f116 = some a7P := by kernel_rfl
theorem b9b (a : List d3) (hpre : (((a.length + l3 w3 a) : Nat) : Int) ≤ 1048576) : A0l Tryz.prog 116 [(false, [.sl false [.i .i64 0, .s [], .sl false [.s [], .i .i64 0, .s []] [], .i .i64 0, .s [], .i .i64 0, .s [], .s [], .i .i64 0, .s []] (a.map (d3.cells false false))])] [] (.one (false, [.sl true [.i .i64 0, .s [], .sl true [.s [], .i .i64 0, .s []] [], .i .i64 0, .s [], .i .i64 0, .s [], .s [], .i .i64 0, .s []] (a.map (d3.cells true true))])) := by
 refine spec_of2 true false none Tryz.func116 b6E (rvs := [.t 2]) (hΓ := mkCtx_ok (deep := true) (l := [(190, [], a5Y)]) ⟨b4i, trivial⟩) (h := ?_)
 intro hb hE
 simp only [go_sem] at hb
 simp only [a7P, x']
 (try refine A2V ?_); simp only [go_sem, a7m]; (repeat' first | apply CJ.mk | intro hc); all_goals try ((repeat' first | apply And.intro | intro hs) <;> (try simp only [go_sem, Bool.and_eq_false_iff] at hs) <;> omega)
 refine aw_loop2 true [] [0, 3] [] [] (fun i : {p : Nat × (List d3) // p.1 ≤ a.length ∧ p.2.length = a.length ∧ p.2.take p.1 = a.take p.1} => [(4, slV (.i .i64 i.1.1))]) (fun i => []) (fun i => [(896, [.i .i64 0, .s [], .sl true [.s [], .i .i64 0, .s []] [], .i .i64 0, .s [], .i .i64 0, .s [], .s [], .i .i64 0, .s []], i.1.2.map (d3.cells true true))]) (fun i => a.length - i.1.1) (⟨(0, List.replicate a.length default), by simp⟩) _ rfl ?_ ?_
 ·simp only [go_sem, a7m]
  all_goals first | omega | ((repeat' apply And.intro) <;> first | omega | rfl | skip)
 intro S0 hS0 i
 simp only [go_sem, a7m] at hS0
 obtain ⟨⟨i, L⟩, hi, hl, ht⟩ := i
 simp only at hi hl ht
 have hg := a8O w3 a i default rfl
 (try refine A2V ?_); simp only [go_sem, a7m, hS0]; (repeat' first | apply CJ.mk | intro hc); all_goals try ((repeat' first | apply And.intro | intro hs) <;> (try simp only [go_sem, Bool.and_eq_false_iff] at hs) <;> omega)
 ·(refine lpK_n2 (⟨(i + 1, L.set i (a.getD i default)), by simp only; omega, by simp [hl], u4 hl ht (by omega)⟩) _ rfl ?_; simp only [go_sem, a7m, hS0]; first | done | ((repeat' apply And.intro) <;> first | omega | (refine w64 ?_ ?_ ?_ <;> omega) | rfl | skip))
 ·obtain rfl := n0 hl ht (by omega)
  rfl
 all_goals trace_state
noncomputable def a4u : CT := o6 (fun (x : (List d3)) h => b9b x h)
@[go_sem] theorem c6B (a : List d3) : a4u [(false, [.sl false [.i .i64 0, .s [], .sl false [.s [], .i .i64 0, .s []] [], .i .i64 0, .s [], .i .i64 0, .s [], .s [], .i .i64 0, .s []] (a.map (d3.cells false false))])] = some ((((a.length + l3 w3 a) : Nat) : Int) ≤ 1048576, [], .one (false, [.sl true [.i .i64 0, .s [], .sl true [.s [], .i .i64 0, .s []] [], .i .i64 0, .s [], .i .i64 0, .s [], .s [], .i .i64 0, .s []] (a.map (d3.cells true true))])) := i6 _ (by intro x y h; simp at h; simp_all) a
theorem b2A : OkC Tryz.prog 116 a4u := i7 _
def a7R : ACode := q' ([o' 1 (.box 4 (.t 0)), w' 2 [.i .i64, .s, .sl [.s [], .i .i64 0, .s []], .sl [.i .i64 0, .s [], .sl false [.s [], .i .i64 0, .s []] [], .i .i64 0, .s [], .i
 .i64 0, .s [], .s [], .i .i64 0, .s []]]]) (q' ([w' 3 [.i .i64, .s, .sl [.s [], .i .i64 0, .s []], .sl [.i .i64 0, .s [], .sl false [.s [], .i .i64 0, .s []]
 [], .i .i64 0, .s [], .i .i64 0, .s [], .s [], .i .i64 0, .s []]]]) (q' ([f' 4 0 1, l' 5 4, f' 6 0 3, s' 1 6 5]) (q' ([f' 7 1 1, e' 8 2 7, c' 9 115 [8], f' 10
 1 3, s' 2 10 9]) (q' ([f' 11 3 1, l' 12 11, c' 13 116 [12], f' 14 3 3, s' 1 14 13]) (q' ([e' 15 4 3, s' 4 2 15]) .ret)))))
theorem b6G : cmp Tryz.prog Tryz.f48 = some a7R := by kernel_rfl
theorem b9d (a : c6) (hpre : (t7 a : Int) ≤ 1048576) : A0l Tryz.prog 48 [(true, [.i .i64 a.Kind, .s a.Head.Name, .sl false [.s [], .i .i64 0, .s []] (a.Head.Args.map c4.cells), .sl false [.i .i64 0, .s [], .sl false [.s [], .i .i64 0, .s []] [], .i .i64 0, .s [], .i .i64 0, .s [], .s [], .i .i64 0, .s []] (a.Body.map (d3.cells false false))])] [] (.one (true, [.i .i64 a.Kind, .s a.Head.Name, .sl true [.s [], .i .i64 0, .s []] (a.Head.Args.map c4.cells), .sl true [.i .i64 0, .s [], .sl true [.s [], .i .i64 0, .s []] [], .i .i64 0, .s [], .i .i64 0, .s [], .s [], .i .i64 0, .s []] (a.Body.map (d3.cells true true))])) := by
 refine spec_of2 true false none Tryz.func48 b6G (rvs := [.c 2 true 4]) (hΓ := mkCtx_ok (deep := true) (l := [(115, [], a1t), (116, [], a4u)]) ⟨a5n, b2A, trivial⟩) (h := ?_)
 intro hb hE
 simp only [go_sem] at hb
 simp only [a7R, x']
 (try refine A2V ?_); simp only [go_sem]; (repeat' first | apply CJ.mk | intro hc); all_goals try ((repeat' first | apply And.intro | intro hs) <;> (try simp only [go_sem, Bool.and_eq_false_iff] at hs) <;> omega)
 all_goals (simp only [t7] at *; omega)
noncomputable def a4w : CT := o6 (fun (x : c6) h => b9d x h)
@[go_sem] theorem c6D (x0 : Int) (x1 : List UInt8) (x2 : List c4) (x3 : List d3) : a4w [(true, [.i .i64 x0, .s x1, .sl false [.s [], .i .i64 0, .s []] (x2.map c4.cells), .sl false [.i .i64 0, .s [], .sl false [.s [], .i .i64 0, .s []] [], .i .i64 0, .s [], .i .i64 0, .s [], .s [], .i .i64 0, .s []] (x3.map (d3.cells false false))])] = some ((t7 (c6.mk x0 (d5.mk x1 x2) x3) : Int) ≤ 1048576, [], .one (true, [.i .i64 ((c6.mk x0 (d5.mk x1 x2) x3).Kind), .s (((c6.mk x0 (d5.mk x1 x2) x3).Head).Name), .sl true [.s [], .i .i64 0, .s []] ((((c6.mk x0 (d5.mk x1 x2) x3).Head).Args).map c4.cells), .sl true [.i .i64 0, .s [], .sl true [.s [], .i .i64 0, .s []] [], .i .i64 0, .s [], .i .i64 0, .s [], .s [], .i .i64 0, .s []] (((c6.mk x0 (d5.mk x1 x2) x3).Body).map (d3.cells true true))])) := i6 _ (by rintro ⟨_, ⟨_, _⟩, _⟩ ⟨_, ⟨_, _⟩, _⟩ h; simp at h; simp_all) (c6.mk x0 (d5.mk x1 x2) x3)
theorem b2C : OkC Tryz.prog 48 a4w := i7 _
def a6P : ACode := q' ([o' 2 (.mov (.k (.v false [.nl [.i .i64 0, .s [], .sl false [.s [], .i .i64 0, .s []] [], .sl false [.i .i64 0, .s [], .sl false [.s [], .i .i64 0, .s []]
 [], .i .i64 0, .s [], .i .i64 0, .s [], .s [], .i .i64 0, .s []] []]])))]) (q' ([m' 5 0, n' 6 5, o' 7 (.mks 4 72 [.i .i64, .s, .sl [.s [], .i .i64 0, .s []],
 .sl [.i .i64 0, .s [], .sl false [.s [], .i .i64 0, .s []] [], .i .i64 0, .s [], .i .i64 0, .s [], .s [], .i .i64 0, .s []]] (.t 6) (.t 6)), m' 3 7]) (.seq
 (q' ([z' 4 0]) (.block 0 (.loop (.seq (q' ([m' 8 4, m' 9 0, n' 10 9, r' 11 8 10]) (.cond (.t 11) .skip (.exit 0))) (.seq (.block 1 (g' [m' 14 3, m' 15 4, m'
 16 0, m' 17 4, i' 18 4 16 17, e' 19 4 18, c' 20 48 [19], i' 21 4 14 15, s' 4 21 20])) (g' [m' 12 4, a' 13 12, m' 4 13])))))) (q' ([m' 22 3, m' 2 22]) .ret)))
theorem b4O : cmp Tryz.prog Tryz.f65 = some a6P := by kernel_rfl
theorem b7v (a : List c6) (hpre : (((a.length + l3 t7 a) : Nat) : Int) ≤ 1048576) : A0l Tryz.prog 65 [(false, [.sl false [.i .i64 0, .s [], .sl false [.s [], .i .i64 0, .s []] [], .sl false [.i .i64 0, .s [], .sl false [.s [], .i .i64 0, .s []] [], .i .i64 0, .s [], .i .i64 0, .s [], .s [], .i .i64 0, .s []] []] (a.map (c6.cells false false))])] [] (.one (false, [.sl true [.i .i64 0, .s [], .sl true [.s [], .i .i64 0, .s []] [], .sl true [.i .i64 0, .s [], .sl true [.s [], .i .i64 0, .s []] [], .i .i64 0, .s [], .i .i64 0, .s [], .s [], .i .i64 0, .s []] []] (a.map (c6.cells true true))])) := by
 refine spec_of2 true false none Tryz.func65 b4O (rvs := [.t 2]) (hΓ := mkCtx_ok (deep := true) (l := [(48, [], a4w)]) ⟨b2C, trivial⟩) (h := ?_)
 intro hb hE
 simp only [go_sem] at hb
 simp only [a6P, x']
 (try refine A2V ?_); simp only [go_sem, a4C]; (repeat' first | apply CJ.mk | intro hc); all_goals try ((repeat' first | apply And.intro | intro hs) <;> (try simp only [go_sem, Bool.and_eq_false_iff] at hs) <;> omega)
 refine aw_loop2 true [] [0, 3] [] [] (fun i : {p : Nat × (List c6) // p.1 ≤ a.length ∧ p.2.length = a.length ∧ p.2.take p.1 = a.take p.1} => [(4, slV (.i .i64 i.1.1))]) (fun i => []) (fun i => [(896, [.i .i64 0, .s [], .sl true [.s [], .i .i64 0, .s []] [], .sl true [.i .i64 0, .s [], .sl true [.s [], .i .i64 0, .s []] [], .i .i64 0, .s [], .i .i64 0, .s [], .s [], .i .i64 0, .s []] []], i.1.2.map (c6.cells true true))]) (fun i => a.length - i.1.1) (⟨(0, List.replicate a.length default), by simp⟩) _ rfl ?_ ?_
 ·simp only [go_sem, a4C]
  all_goals first | omega | ((repeat' apply And.intro) <;> first | omega | rfl | skip)
 intro S0 hS0 i
 simp only [go_sem, a4C] at hS0
 obtain ⟨⟨i, L⟩, hi, hl, ht⟩ := i
 simp only at hi hl ht
 have hg := a8O t7 a i default rfl
 (try refine A2V ?_); simp only [go_sem, a4C, hS0]; (repeat' first | apply CJ.mk | intro hc); all_goals try ((repeat' first | apply And.intro | intro hs) <;> (try simp only [go_sem, Bool.and_eq_false_iff] at hs) <;> omega)
 ·(refine lpK_n2 (⟨(i + 1, L.set i (a.getD i default)), by simp only; omega, by simp [hl], u4 hl ht (by omega)⟩) _ rfl ?_; simp only [go_sem, a4C, hS0]; first | done | ((repeat' apply And.intro) <;> first | omega | (refine w64 ?_ ?_ ?_ <;> omega) | rfl | skip))
 ·obtain rfl := n0 hl ht (by omega)
  rfl
 all_goals trace_state
noncomputable def a3l : CT := o6 (fun (x : (List c6)) h => b7v x h)
@[go_sem] theorem c4Z (a : List c6) : a3l [(false, [.sl false [.i .i64 0, .s [], .sl false [.s [], .i .i64 0, .s []] [], .sl false [.i .i64 0, .s [], .sl false [.s [], .i .i64 0, .s []] [], .i .i64 0, .s [], .i .i64 0, .s [], .s [], .i .i64 0, .s []] []] (a.map (c6.cells false false))])] = some ((((a.length + l3 t7 a) : Nat) : Int) ≤ 1048576, [], .one (false, [.sl true [.i .i64 0, .s [], .sl true [.s [], .i .i64 0, .s []] [], .sl true [.i .i64 0, .s [], .sl true [.s [], .i .i64 0, .s []] [], .i .i64 0, .s [], .i .i64 0, .s [], .s [], .i .i64 0, .s []] []] (a.map (c6.cells true true))])) := i6 _ (by intro x y h; simp at h; simp_all) a
theorem b1m : OkC Tryz.prog 65 a3l := i7 _
def a7O : ACode := q' ([o' 1 (.box 3 (.t 0)), w' 2 [.i .i64, .s, .i .i64]]) (q' ([w' 3 [.i .i64, .s, .i .i64]]) (q' ([f' 4 0 1, l' 5 4, f' 6 0 3, s' 1 6 5]) (q' ([f' 7 1 1, l' 8
 7, f' 9 1 3, s' 1 9 8]) (q' ([f' 10 2 1, l' 11 10, f' 12 2 3, s' 1 12 11]) (q' ([e' 13 3 3, s' 3 2 13]) .ret)))))
theorem b6D : cmp Tryz.prog Tryz.f137 = some a7O := by kernel_rfl
theorem b9a (a : c8) : A0l Tryz.prog 137 [(true, [.i .i64 a.Kind, .s a.Name, .i .i64 a.Arity])] [] (.one (true, [.i .i64 a.Kind, .s a.Name, .i .i64 a.Arity])) := by
 refine spec_of2 true false none Tryz.func137 b6D (rvs := [.c 2 true 3]) (hΓ := mkCtx_ok (deep := true) (l := []) trivial) (h := ?_)
 intro hb hE
 simp only [go_sem] at hb
 simp only [a7O, x']
 (try refine A2V ?_); simp only [go_sem]; (repeat' first | apply CJ.mk | intro hc); all_goals try ((repeat' first | apply And.intro | intro hs) <;> (try simp only [go_sem, Bool.and_eq_false_iff] at hs) <;> omega)
noncomputable def a4t : CT := i5 (fun (x : c8) => b9a x)
@[go_sem] theorem c6A (x0 : Int) (x1 : List UInt8) (x2 : Int) : a4t [(true, [.i .i64 x0, .s x1, .i .i64 x2])] = some (True, [], .one (true, [.i .i64 ((c8.mk x0 x1 x2).Kind), .s ((c8.mk x0 x1 x2).Name), .i .i64 ((c8.mk x0 x1 x2).Arity)])) := f7 _ (by rintro ⟨_, _, _⟩ ⟨_, _, _⟩ h; simp at h; simp_all) (c8.mk x0 x1 x2)
theorem b2z : OkC Tryz.prog 137 a4t := f8 _
def a6N : ACode := q' ([o' 2 (.mov (.k (.v false [.nl [.i .i64 0, .s [], .i .i64 0]])))]) (q' ([m' 5 0, n' 6 5, o' 7 (.mks 3 32 [.i .i64, .s, .i .i64] (.t 6) (.t 6)), m' 3 7])
 (.seq (q' ([z' 4 0]) (.block 0 (.loop (.seq (q' ([m' 8 4, m' 9 0, n' 10 9, r' 11 8 10]) (.cond (.t 11) .skip (.exit 0))) (.seq (.block 1 (g' [m' 14 3, m' 15
 4, m' 16 0, m' 17 4, i' 18 3 16 17, e' 19 3 18, c' 20 137 [19], i' 21 3 14 15, s' 3 21 20])) (g' [m' 12 4, a' 13 12, m' 4 13])))))) (q' ([m' 22 3, m' 2 22])
 .ret)))
theorem b4M : cmp Tryz.prog Tryz.f64 = some a6N := by kernel_rfl
theorem b7t (a : List c8) (hpre : (((a.length + l3 w9 a) : Nat) : Int) ≤ 1048576) : A0l Tryz.prog 64 [(false, [.sl false [.i .i64 0, .s [], .i .i64 0] (a.map c8.cells)])] [] (.one (false, [.sl true [.i .i64 0, .s [], .i .i64 0] (a.map c8.cells)])) := by
 refine spec_of2 true false none Tryz.func64 b4M (rvs := [.t 2]) (hΓ := mkCtx_ok (deep := true) (l := [(137, [], a4t)]) ⟨b2z, trivial⟩) (h := ?_)
 intro hb hE
 simp only [go_sem] at hb
 simp only [a6N, x']
 (try refine A2V ?_); simp only [go_sem, a4B]; (repeat' first | apply CJ.mk | intro hc); all_goals try ((repeat' first | apply And.intro | intro hs) <;> (try simp only [go_sem, Bool.and_eq_false_iff] at hs) <;> omega)
 refine aw_loop2 true [] [0, 3] [] [] (fun i : {p : Nat × (List c8) // p.1 ≤ a.length ∧ p.2.length = a.length ∧ p.2.take p.1 = a.take p.1} => [(4, slV (.i .i64 i.1.1))]) (fun i => []) (fun i => [(896, [.i .i64 0, .s [], .i .i64 0], i.1.2.map c8.cells)]) (fun i => a.length - i.1.1) (⟨(0, List.replicate a.length default), by simp⟩) _ rfl ?_ ?_
 ·simp only [go_sem, a4B]
  all_goals first | omega | ((repeat' apply And.intro) <;> first | omega | rfl | skip)
 intro S0 hS0 i
 simp only [go_sem, a4B] at hS0
 obtain ⟨⟨i, L⟩, hi, hl, ht⟩ := i
 simp only at hi hl ht
 (try refine A2V ?_); simp only [go_sem, a4B, hS0]; (repeat' first | apply CJ.mk | intro hc); all_goals try ((repeat' first | apply And.intro | intro hs) <;> (try simp only [go_sem, Bool.and_eq_false_iff] at hs) <;> omega)
 ·(refine lpK_n2 (⟨(i + 1, L.set i (a.getD i default)), by simp only; omega, by simp [hl], u4 hl ht (by omega)⟩) _ rfl ?_; simp only [go_sem, a4B, hS0]; first | done | ((repeat' apply And.intro) <;> first | omega | (refine w64 ?_ ?_ ?_ <;> omega) | rfl | skip))
 ·obtain rfl := n0 hl ht (by omega)
  rfl
 all_goals trace_state
noncomputable def a3j : CT := o6 (fun (x : (List c8)) h => b7t x h)
@[go_sem] theorem c4X (a : List c8) : a3j [(false, [.sl false [.i .i64 0, .s [], .i .i64 0] (a.map c8.cells)])] = some ((((a.length + l3 w9 a) : Nat) : Int) ≤ 1048576, [], .one (false, [.sl true [.i .i64 0, .s [], .i .i64 0] (a.map c8.cells)])) := i6 _ (by intro x y h; simp at h; simp_all) a
theorem b1k : OkC Tryz.prog 64 a3j := i7 _
def a3G : ACode := q' ([o' 1 (.box 2 (.t 0)), w' 2 [.sl [.i .i64 0, .s [], .i .i64 0], .sl [.i .i64 0, .s [], .sl false [.s [], .i .i64 0, .s []] [], .sl false [.i .i64 0, .s [],
 .sl false [.s [], .i .i64 0, .s []] [], .i .i64 0, .s [], .i .i64 0, .s [], .s [], .i .i64 0, .s []] []]]]) (q' ([w' 3 [.sl [.i .i64 0, .s [], .i .i64 0], .sl
 [.i .i64 0, .s [], .sl false [.s [], .i .i64 0, .s []] [], .sl false [.i .i64 0, .s [], .sl false [.s [], .i .i64 0, .s []] [], .i .i64 0, .s [], .i .i64 0,
 .s [], .s [], .i .i64 0, .s []] []]]]) (q' ([f' 4 0 1, l' 5 4, c' 6 64 [5], f' 7 0 3, s' 1 7 6]) (q' ([f' 8 1 1, l' 9 8, c' 10 65 [9], f' 11 1 3, s' 1 11 10])
 (q' ([e' 12 2 3, s' 2 2 12]) .ret))))
theorem b1C : cmp Tryz.prog Tryz.f14 = some a3G := by kernel_rfl
theorem b3r (a : c7) (hpre : (a1h a : Int) ≤ 1048576) : A0l Tryz.prog 14 [(true, [.sl false [.i .i64 0, .s [], .i .i64 0] (a.Decls.map c8.cells), .sl false [.i .i64 0, .s [], .sl false [.s [], .i .i64 0, .s []] [], .sl false [.i .i64 0, .s [], .sl false [.s [], .i .i64 0, .s []] [], .i .i64 0, .s [], .i .i64 0, .s [], .s [], .i .i64 0, .s []] []] (a.Rules.map (c6.cells false false))])] [] (.one (true, [.sl true [.i .i64 0, .s [], .i .i64 0] (a.Decls.map c8.cells), .sl true [.i .i64 0, .s [], .sl true [.s [], .i .i64 0, .s []] [], .sl true [.i .i64 0, .s [], .sl true [.s [], .i .i64 0, .s []] [], .i .i64 0, .s [], .i .i64 0, .s [], .s [], .i .i64 0, .s []] []] (a.Rules.map (c6.cells true true))])) := by
 refine spec_of2 true false none Tryz.func14 b1C (rvs := [.c 2 true 2]) (hΓ := mkCtx_ok (deep := true) (l := [(64, [], a3j), (65, [], a3l)]) ⟨b1k, b1m, trivial⟩) (h := ?_)
 intro hb hE
 simp only [go_sem] at hb
 simp only [a3G, x']
 (try refine A2V ?_); simp only [go_sem]; (repeat' first | apply CJ.mk | intro hc); all_goals try ((repeat' first | apply And.intro | intro hs) <;> (try simp only [go_sem, Bool.and_eq_false_iff] at hs) <;> omega)
 all_goals (simp only [a1h] at *; omega)
noncomputable def a0Y : CT := o6 (fun (x : c7) h => b3r x h)
@[go_sem] theorem c2G (x0 : List c8) (x1 : List c6) : a0Y [(true, [.sl false [.i .i64 0, .s [], .i .i64 0] (x0.map c8.cells), .sl false [.i .i64 0, .s [], .sl false [.s [], .i .i64 0, .s []] [], .sl false [.i .i64 0, .s [], .sl false [.s [], .i .i64 0, .s []] [], .i .i64 0, .s [], .i .i64 0, .s [], .s [], .i .i64 0, .s []] []] (x1.map (c6.cells false false))])] = some ((a1h (c7.mk x0 x1) : Int) ≤ 1048576, [], .one (true, [.sl true [.i .i64 0, .s [], .i .i64 0] (((c7.mk x0 x1).Decls).map c8.cells), .sl true [.i .i64 0, .s [], .sl true [.s [], .i .i64 0, .s []] [], .sl true [.i .i64 0, .s [], .sl true [.s [], .i .i64 0, .s []] [], .i .i64 0, .s [], .i .i64 0, .s [], .s [], .i .i64 0, .s []] []] (((c7.mk x0 x1).Rules).map (c6.cells true true))])) := i6 _ (by rintro ⟨_, _⟩ ⟨_, _⟩ h; simp at h; simp_all) (c7.mk x0 x1)
theorem a8U : OkC Tryz.prog 14 a0Y := i7 _
def a7B : ACode := q' ([o' 2 (.box 2 (.t 0)), o' 3 (.box 2 (.t 1)), b' 4 false]) (.seq (q' ([f' 5 0 2, l' 6 5, f' 7 0 3, l' 8 7, o' 9 (.bin .neq (.t 6) (.t 8))]) (.cond (.t 9) (q'
 ([b' 4 false]) .ret) .skip)) (.seq (q' ([f' 10 1 2, l' 11 10, f' 12 1 3, l' 13 12, c' 14 205 [11, 13], o' 15 (.not (.t 14))]) (.cond (.t 15) (q' ([b' 4
 false]) .ret) .skip)) (q' ([b' 4 true]) .ret)))
theorem b6q : cmp Tryz.prog Tryz.f122 = some a7B := by kernel_rfl
theorem b8N (a : d5) (b : d5) : A0l Tryz.prog 122 [(true, [.s a.Name, .sl false [.s [], .i .i64 0, .s []] (a.Args.map c4.cells)]), (true, [.s b.Name, .sl false [.s [], .i .i64 0, .s []] (b.Args.map c4.cells)])] [] (.one (false, [.b (decide (a = b))])) := by
 refine spec_of2 false false none Tryz.func122 b6q (rvs := [.t 4]) (hΓ := mkCtx_ok (deep := false) (l := [(205, [], a3d)]) ⟨b1e, trivial⟩) (h := ?_)
 intro hb hE
 simp only [go_sem] at hb
 simp only [a7B, x']
 (try refine A2V ?_); simp only [go_sem]; (repeat' first | apply CJ.mk | intro hc); all_goals try ((repeat' first | apply And.intro | intro hs) <;> (try simp only [go_sem, Bool.and_eq_false_iff] at hs) <;> omega)
 all_goals (cases a; cases b; simp_all)
noncomputable def a1p : CT := i5 (fun (x : d5 × d5) => b8N x.1 x.2)
@[go_sem] theorem c6n (x0 : List UInt8) (x1 : List c4) (x2 : List UInt8) (x3 : List c4) : a1p [(true, [.s x0, .sl false [.s [], .i .i64 0, .s []] (x1.map c4.cells)]), (true, [.s x2, .sl false [.s [], .i .i64 0, .s []] (x3.map c4.cells)])] = some (True, [], .one (false, [.b (decide ((d5.mk x0 x1) = (d5.mk x2 x3)))])) := f7 _ (by rintro ⟨⟨_, _⟩, ⟨_, _⟩⟩ ⟨⟨_, _⟩, ⟨_, _⟩⟩ h; simp at h; simp_all) ((d5.mk x0 x1), (d5.mk x2 x3))
theorem a5j : OkC Tryz.prog 122 a1p := f8 _
def a9n : ACode := q' ([o' 2 (.box 10 (.t 0)), o' 3 (.box 10 (.t 1)), b' 4 false]) (.seq (q' ([f' 5 0 2, l' 6 5, f' 7 0 3, l' 8 7, o' 9 (.bin .neq (.t 6) (.t 8))]) (.cond (.t 9)
 (q' ([b' 4 false]) .ret) .skip)) (.seq (q' ([f' 10 1 2, e' 11 2 10, f' 12 1 3, e' 13 2 12, c' 14 122 [11, 13], o' 15 (.not (.t 14))]) (.cond (.t 15) (q' ([b'
 4 false]) .ret) .skip)) (.seq (q' ([f' 16 3 2, l' 17 16, f' 18 3 3, l' 19 18, o' 20 (.bin .neq (.t 17) (.t 19))]) (.cond (.t 20) (q' ([b' 4 false]) .ret)
 .skip)) (.seq (q' ([f' 21 4 2, e' 22 3 21, f' 23 4 3, e' 24 3 23, c' 25 289 [22, 24], o' 26 (.not (.t 25))]) (.cond (.t 26) (q' ([b' 4 false]) .ret) .skip))
 (.seq (q' ([f' 27 7 2, e' 28 3 27, f' 29 7 3, e' 30 3 29, c' 31 289 [28, 30], o' 32 (.not (.t 31))]) (.cond (.t 32) (q' ([b' 4 false]) .ret) .skip)) (q' ([b'
 4 true]) .ret))))))
theorem b8m : cmp Tryz.prog Tryz.f206 = some a9n := by kernel_rfl
theorem c0H (a : d3) (b : d3) : A0l Tryz.prog 206 [(true, [.i .i64 a.Kind, .s a.Atom.Name, .sl false [.s [], .i .i64 0, .s []] (a.Atom.Args.map c4.cells), .i .i64 a.Op, .s a.A.Var, .i .i64 a.A.Val.N, .s a.A.Val.S, .s a.B.Var, .i .i64 a.B.Val.N, .s a.B.Val.S]), (true, [.i .i64 b.Kind, .s b.Atom.Name, .sl false [.s [], .i .i64 0, .s []] (b.Atom.Args.map c4.cells), .i .i64 b.Op, .s b.A.Var, .i .i64 b.A.Val.N, .s b.A.Val.S, .s b.B.Var, .i .i64 b.B.Val.N, .s b.B.Val.S])] [] (.one (false, [.b (decide (a = b))])) := by
 refine spec_of2 false false none Tryz.func206 b8m (rvs := [.t 4]) (hΓ := mkCtx_ok (deep := false) (l := [(122, [], a1p), (289, [], a1q)]) ⟨a5j, a5k, trivial⟩) (h := ?_)
 intro hb hE
 simp only [go_sem] at hb
 simp only [a9n, x']
 (try refine A2V ?_); simp only [go_sem]; (repeat' first | apply CJ.mk | intro hc); all_goals try ((repeat' first | apply And.intro | intro hs) <;> (try simp only [go_sem, Bool.and_eq_false_iff] at hs) <;> omega)
 all_goals (cases a; cases b; simp_all)
noncomputable def a5S : CT := i5 (fun (x : d3 × d3) => c0H x.1 x.2)
@[go_sem] theorem c7A (x0 : Int) (x1 : List UInt8) (x2 : List c4) (x3 : Int) (x4 : List UInt8) (x5 : Int) (x6 x7 : List UInt8) (x8 : Int) (x9 : List UInt8) (x10 : Int) (x11 : List UInt8) (x12 : List c4) (x13 : Int) (x14 : List UInt8) (x15 : Int) (x16 x17 : List UInt8) (x18 : Int) (x19 : List UInt8) : a5S [(true, [.i .i64 x0, .s x1, .sl false [.s [], .i .i64 0, .s []] (x2.map c4.cells), .i .i64 x3, .s x4, .i .i64 x5, .s x6, .s x7, .i .i64 x8, .s x9]), (true, [.i .i64 x10, .s x11, .sl false [.s [], .i .i64 0, .s []] (x12.map c4.cells), .i .i64 x13, .s x14, .i .i64 x15, .s x16, .s x17, .i .i64 x18, .s x19])] = some (True, [], .one (false, [.b (decide ((d3.mk x0 (d5.mk x1 x2) x3 (c4.mk x4 (c9.mk x5 x6)) (c4.mk x7 (c9.mk x8 x9))) = (d3.mk x10 (d5.mk x11 x12) x13 (c4.mk x14 (c9.mk x15 x16)) (c4.mk x17 (c9.mk x18 x19)))))])) := f7 _ (by rintro ⟨⟨_, ⟨_, _⟩, _, ⟨_, ⟨_, _⟩⟩, ⟨_, ⟨_, _⟩⟩⟩, ⟨_, ⟨_, _⟩, _, ⟨_, ⟨_, _⟩⟩, ⟨_, ⟨_, _⟩⟩⟩⟩ ⟨⟨_, ⟨_, _⟩, _, ⟨_, ⟨_, _⟩⟩, ⟨_, ⟨_, _⟩⟩⟩, ⟨_, ⟨_, _⟩, _, ⟨_, ⟨_, _⟩⟩, ⟨_, ⟨_, _⟩⟩⟩⟩ h; simp at h; simp_all) ((d3.mk x0 (d5.mk x1 x2) x3 (c4.mk x4 (c9.mk x5 x6)) (c4.mk x7 (c9.mk x8 x9))), (d3.mk x10 (d5.mk x11 x12) x13 (c4.mk x14 (c9.mk x15 x16)) (c4.mk x17 (c9.mk x18 x19))))
theorem b4c : OkC Tryz.prog 206 a5S := f8 _
def a7D : ACode := q' ([b' 4 false]) (.seq (q' ([m' 6 0, n' 7 6, m' 8 1, n' 9 8, o' 10 (.bin .neq (.t 7) (.t 9))]) (.cond (.t 10) (q' ([b' 4 false]) .ret) .skip)) (.seq (q' ([z' 5
 0]) (.block 0 (.loop (.seq (q' ([m' 11 5, m' 12 0, n' 13 12, r' 14 11 13]) (.cond (.t 14) .skip (.exit 0))) (.seq (.block 1 (.seq (.reg true [m' 17 0, m' 18
 5, i' 19 10 17 18, e' 20 10 19, m' 21 1, m' 22 5, i' 23 10 21 22, e' 24 10 23, c' 25 206 [20, 24], o' 26 (.not (.t 25))]) (.cond (.t 26) (q' ([b' 4 false])
 .ret) .skip))) (g' [m' 15 5, a' 16 15, m' 5 16])))))) (q' ([b' 4 true]) .ret)))
theorem b6s : cmp Tryz.prog Tryz.f123 = some a7D := by kernel_rfl
theorem b8P (a : List d3) (b : List d3) : A0l Tryz.prog 123 [(false, [.sl false [.i .i64 0, .s [], .sl false [.s [], .i .i64 0, .s []] [], .i .i64 0, .s [], .i .i64 0, .s [], .s [], .i .i64 0, .s []] (a.map (d3.cells false false))]), (false, [.sl false [.i .i64 0, .s [], .sl false [.s [], .i .i64 0, .s []] [], .i .i64 0, .s [], .i .i64 0, .s [], .s [], .i .i64 0, .s []] (b.map (d3.cells false false))])] [] (.one (false, [.b (decide (a = b))])) := by
 refine spec_of2 false false none Tryz.func123 b6s (rvs := [.t 4]) (hΓ := mkCtx_ok (deep := false) (l := [(206, [], a5S)]) ⟨b4c, trivial⟩) (h := ?_)
 intro hb hE
 simp only [go_sem] at hb
 simp only [a7D, x']
 (try refine A2V ?_); simp only [go_sem]; (repeat' first | apply CJ.mk | intro hc); all_goals try ((repeat' first | apply And.intro | intro hs) <;> (try simp only [go_sem, Bool.and_eq_false_iff] at hs) <;> omega)
 ·symm
  rw [decide_eq_false_iff_not]
  rintro rfl
  simp at hc
 have hl : a.length = b.length := by simpa [Int.ofNat_inj] using hc
 refine aw_loop2 false [] [0, 1] [] [] (fun i : {i : Nat // i ≤ a.length ∧ a.take i = b.take i} => [(5, slV (.i .i64 i.1))]) (fun i => []) (fun i => []) (fun i => a.length - i.1) (⟨0, by simp⟩) _ rfl ?_ ?_
 ·simp only [go_sem]
  all_goals first | omega | ((repeat' apply And.intro) <;> first | omega | rfl | skip)
 intro S0 hS0 i
 simp only [go_sem] at hS0
 obtain ⟨i, hi, ht⟩ := i
 (try refine A2V ?_); simp only [go_sem, hS0]; (repeat' first | apply CJ.mk | intro hc); all_goals try ((repeat' first | apply And.intro | intro hs) <;> (try simp only [go_sem, Bool.and_eq_false_iff] at hs) <;> omega)
 ·exact (decide_eq_false (a0m default (i := i) (by simpa using hc))).symm
 ·(refine lpK_n2 (⟨i + 1, by omega, v6 ht (by omega) (by omega) (d := default) (by simpa using hc)⟩) _ rfl ?_; simp only [go_sem, hS0]; first | done | ((repeat' apply And.intro) <;> first | omega | (refine w64 ?_ ?_ ?_ <;> omega) | rfl | skip))
 ·exact (decide_eq_true (n0 hl ht (by omega))).symm
 all_goals trace_state
noncomputable def a4m : CT := i5 (fun (x : (List d3) × (List d3)) => b8P x.1 x.2)
@[go_sem] theorem c6p (a b : List d3) : a4m [(false, [.sl false [.i .i64 0, .s [], .sl false [.s [], .i .i64 0, .s []] [], .i .i64 0, .s [], .i .i64 0, .s [], .s [], .i .i64 0, .s []] (a.map (d3.cells false false))]), (false, [.sl false [.i .i64 0, .s [], .sl false [.s [], .i .i64 0, .s []] [], .i .i64 0, .s [], .i .i64 0, .s [], .s [], .i .i64 0, .s []] (b.map (d3.cells false false))])] = some (True, [], .one (false, [.b (decide (a = b))])) := f7 _ (by rintro ⟨_, _⟩ ⟨_, _⟩ h; simp at h; simp_all) (a, b)
theorem b2s : OkC Tryz.prog 123 a4m := f8 _
def a7F : ACode := q' ([o' 2 (.box 4 (.t 0)), o' 3 (.box 4 (.t 1)), b' 4 false]) (.seq (q' ([f' 5 0 2, l' 6 5, f' 7 0 3, l' 8 7, o' 9 (.bin .neq (.t 6) (.t 8))]) (.cond (.t 9) (q'
 ([b' 4 false]) .ret) .skip)) (.seq (q' ([f' 10 1 2, e' 11 2 10, f' 12 1 3, e' 13 2 12, c' 14 122 [11, 13], o' 15 (.not (.t 14))]) (.cond (.t 15) (q' ([b' 4
 false]) .ret) .skip)) (.seq (q' ([f' 16 3 2, l' 17 16, f' 18 3 3, l' 19 18, c' 20 123 [17, 19], o' 21 (.not (.t 20))]) (.cond (.t 21) (q' ([b' 4 false]) .ret)
 .skip)) (q' ([b' 4 true]) .ret))))
theorem b6u : cmp Tryz.prog Tryz.f51 = some a7F := by kernel_rfl
theorem b8R (a : c6) (b : c6) : A0l Tryz.prog 51 [(true, [.i .i64 a.Kind, .s a.Head.Name, .sl false [.s [], .i .i64 0, .s []] (a.Head.Args.map c4.cells), .sl false [.i .i64 0, .s [], .sl false [.s [], .i .i64 0, .s []] [], .i .i64 0, .s [], .i .i64 0, .s [], .s [], .i .i64 0, .s []] (a.Body.map (d3.cells false false))]), (true, [.i .i64 b.Kind, .s b.Head.Name, .sl false [.s [], .i .i64 0, .s []] (b.Head.Args.map c4.cells), .sl false [.i .i64 0, .s [], .sl false [.s [], .i .i64 0, .s []] [], .i .i64 0, .s [], .i .i64 0, .s [], .s [], .i .i64 0, .s []] (b.Body.map (d3.cells false false))])] [] (.one (false, [.b (decide (a = b))])) := by
 refine spec_of2 false false none Tryz.func51 b6u (rvs := [.t 4]) (hΓ := mkCtx_ok (deep := false) (l := [(122, [], a1p), (123, [], a4m)]) ⟨a5j, b2s, trivial⟩) (h := ?_)
 intro hb hE
 simp only [go_sem] at hb
 simp only [a7F, x']
 (try refine A2V ?_); simp only [go_sem]; (repeat' first | apply CJ.mk | intro hc); all_goals try ((repeat' first | apply And.intro | intro hs) <;> (try simp only [go_sem, Bool.and_eq_false_iff] at hs) <;> omega)
 all_goals (cases a; cases b; simp_all)
noncomputable def a4o : CT := i5 (fun (x : c6 × c6) => b8R x.1 x.2)
@[go_sem] theorem c6r (x0 : Int) (x1 : List UInt8) (x2 : List c4) (x3 : List d3) (x4 : Int) (x5 : List UInt8) (x6 : List c4) (x7 : List d3) : a4o [(true, [.i .i64 x0, .s x1, .sl false [.s [], .i .i64 0, .s []] (x2.map c4.cells), .sl false [.i .i64 0, .s [], .sl false [.s [], .i .i64 0, .s []] [], .i .i64 0, .s [], .i .i64 0, .s [], .s [], .i .i64 0, .s []] (x3.map (d3.cells false false))]), (true, [.i .i64 x4, .s x5, .sl false [.s [], .i .i64 0, .s []] (x6.map c4.cells), .sl false [.i .i64 0, .s [], .sl false [.s [], .i .i64 0, .s []] [], .i .i64 0, .s [], .i .i64 0, .s [], .s [], .i .i64 0, .s []] (x7.map (d3.cells false false))])] = some (True, [], .one (false, [.b (decide ((c6.mk x0 (d5.mk x1 x2) x3) = (c6.mk x4 (d5.mk x5 x6) x7)))])) := f7 _ (by rintro ⟨⟨_, ⟨_, _⟩, _⟩, ⟨_, ⟨_, _⟩, _⟩⟩ ⟨⟨_, ⟨_, _⟩, _⟩, ⟨_, ⟨_, _⟩, _⟩⟩ h; simp at h; simp_all) ((c6.mk x0 (d5.mk x1 x2) x3), (c6.mk x4 (d5.mk x5 x6) x7))
theorem b2u : OkC Tryz.prog 51 a4o := f8 _
def a6D : ACode := q' ([b' 4 false]) (.seq (q' ([m' 6 0, n' 7 6, m' 8 1, n' 9 8, o' 10 (.bin .neq (.t 7) (.t 9))]) (.cond (.t 10) (q' ([b' 4 false]) .ret) .skip)) (.seq (q' ([z' 5
 0]) (.block 0 (.loop (.seq (q' ([m' 11 5, m' 12 0, n' 13 12, r' 14 11 13]) (.cond (.t 14) .skip (.exit 0))) (.seq (.block 1 (.seq (.reg true [m' 17 0, m' 18
 5, i' 19 4 17 18, e' 20 4 19, m' 21 1, m' 22 5, i' 23 4 21 22, e' 24 4 23, c' 25 51 [20, 24], o' 26 (.not (.t 25))]) (.cond (.t 26) (q' ([b' 4 false]) .ret)
 .skip))) (g' [m' 15 5, a' 16 15, m' 5 16])))))) (q' ([b' 4 true]) .ret)))
theorem b4C : cmp Tryz.prog Tryz.f70 = some a6D := by kernel_rfl
theorem b7j (a : List c6) (b : List c6) : A0l Tryz.prog 70 [(false, [.sl false [.i .i64 0, .s [], .sl false [.s [], .i .i64 0, .s []] [], .sl false [.i .i64 0, .s [], .sl false [.s [], .i .i64 0, .s []] [], .i .i64 0, .s [], .i .i64 0, .s [], .s [], .i .i64 0, .s []] []] (a.map (c6.cells false false))]), (false, [.sl false [.i .i64 0, .s [], .sl false [.s [], .i .i64 0, .s []] [], .sl false [.i .i64 0, .s [], .sl false [.s [], .i .i64 0, .s []] [], .i .i64 0, .s [], .i .i64 0, .s [], .s [], .i .i64 0, .s []] []] (b.map (c6.cells false false))])] [] (.one (false, [.b (decide (a = b))])) := by
 refine spec_of2 false false none Tryz.func70 b4C (rvs := [.t 4]) (hΓ := mkCtx_ok (deep := false) (l := [(51, [], a4o)]) ⟨b2u, trivial⟩) (h := ?_)
 intro hb hE
 simp only [go_sem] at hb
 simp only [a6D, x']
 (try refine A2V ?_); simp only [go_sem]; (repeat' first | apply CJ.mk | intro hc); all_goals try ((repeat' first | apply And.intro | intro hs) <;> (try simp only [go_sem, Bool.and_eq_false_iff] at hs) <;> omega)
 ·symm
  rw [decide_eq_false_iff_not]
  rintro rfl
  simp at hc
 have hl : a.length = b.length := by simpa [Int.ofNat_inj] using hc
 refine aw_loop2 false [] [0, 1] [] [] (fun i : {i : Nat // i ≤ a.length ∧ a.take i = b.take i} => [(5, slV (.i .i64 i.1))]) (fun i => []) (fun i => []) (fun i => a.length - i.1) (⟨0, by simp⟩) _ rfl ?_ ?_
 ·simp only [go_sem]
  all_goals first | omega | ((repeat' apply And.intro) <;> first | omega | rfl | skip)
 intro S0 hS0 i
 simp only [go_sem] at hS0
 obtain ⟨i, hi, ht⟩ := i
 (try refine A2V ?_); simp only [go_sem, hS0]; (repeat' first | apply CJ.mk | intro hc); all_goals try ((repeat' first | apply And.intro | intro hs) <;> (try simp only [go_sem, Bool.and_eq_false_iff] at hs) <;> omega)
 ·exact (decide_eq_false (a0m default (i := i) (by simpa using hc))).symm
 ·(refine lpK_n2 (⟨i + 1, by omega, v6 ht (by omega) (by omega) (d := default) (by simpa using hc)⟩) _ rfl ?_; simp only [go_sem, hS0]; first | done | ((repeat' apply And.intro) <;> first | omega | (refine w64 ?_ ?_ ?_ <;> omega) | rfl | skip))
 ·exact (decide_eq_true (n0 hl ht (by omega))).symm
 all_goals trace_state
noncomputable def a3b : CT := i5 (fun (x : (List c6) × (List c6)) => b7j x.1 x.2)
@[go_sem] theorem c4N (a b : List c6) : a3b [(false, [.sl false [.i .i64 0, .s [], .sl false [.s [], .i .i64 0, .s []] [], .sl false [.i .i64 0, .s [], .sl false [.s [], .i .i64 0, .s []] [], .i .i64 0, .s [], .i .i64 0, .s [], .s [], .i .i64 0, .s []] []] (a.map (c6.cells false false))]), (false, [.sl false [.i .i64 0, .s [], .sl false [.s [], .i .i64 0, .s []] [], .sl false [.i .i64 0, .s [], .sl false [.s [], .i .i64 0, .s []] [], .i .i64 0, .s [], .i .i64 0, .s [], .s [], .i .i64 0, .s []] []] (b.map (c6.cells false false))])] = some (True, [], .one (false, [.b (decide (a = b))])) := f7 _ (by rintro ⟨_, _⟩ ⟨_, _⟩ h; simp at h; simp_all) (a, b)
theorem b1c : OkC Tryz.prog 70 a3b := f8 _
def a7C : ACode := q' ([o' 2 (.box 3 (.t 0)), o' 3 (.box 3 (.t 1)), b' 4 false]) (.seq (q' ([f' 5 0 2, l' 6 5, f' 7 0 3, l' 8 7, o' 9 (.bin .neq (.t 6) (.t 8))]) (.cond (.t 9) (q'
 ([b' 4 false]) .ret) .skip)) (.seq (q' ([f' 10 1 2, l' 11 10, f' 12 1 3, l' 13 12, o' 14 (.bin .neq (.t 11) (.t 13))]) (.cond (.t 14) (q' ([b' 4 false]) .ret)
 .skip)) (.seq (q' ([f' 15 2 2, l' 16 15, f' 17 2 3, l' 18 17, o' 19 (.bin .neq (.t 16) (.t 18))]) (.cond (.t 19) (q' ([b' 4 false]) .ret) .skip)) (q' ([b' 4
 true]) .ret))))
theorem b6r : cmp Tryz.prog Tryz.f144 = some a7C := by kernel_rfl
theorem b8O (a : c8) (b : c8) : A0l Tryz.prog 144 [(true, [.i .i64 a.Kind, .s a.Name, .i .i64 a.Arity]), (true, [.i .i64 b.Kind, .s b.Name, .i .i64 b.Arity])] [] (.one (false, [.b (decide (a = b))])) := by
 refine spec_of2 false false none Tryz.func144 b6r (rvs := [.t 4]) (hΓ := mkCtx_ok (deep := false) (l := []) trivial) (h := ?_)
 intro hb hE
 simp only [go_sem] at hb
 simp only [a7C, x']
 (try refine A2V ?_); simp only [go_sem]; (repeat' first | apply CJ.mk | intro hc); all_goals try ((repeat' first | apply And.intro | intro hs) <;> (try simp only [go_sem, Bool.and_eq_false_iff] at hs) <;> omega)
 all_goals (cases a; cases b; simp_all)
noncomputable def a4l : CT := i5 (fun (x : c8 × c8) => b8O x.1 x.2)
@[go_sem] theorem c6o (x0 : Int) (x1 : List UInt8) (x2 x3 : Int) (x4 : List UInt8) (x5 : Int) : a4l [(true, [.i .i64 x0, .s x1, .i .i64 x2]), (true, [.i .i64 x3, .s x4, .i .i64 x5])] = some (True, [], .one (false, [.b (decide ((c8.mk x0 x1 x2) = (c8.mk x3 x4 x5)))])) := f7 _ (by rintro ⟨⟨_, _, _⟩, ⟨_, _, _⟩⟩ ⟨⟨_, _, _⟩, ⟨_, _, _⟩⟩ h; simp at h; simp_all) ((c8.mk x0 x1 x2), (c8.mk x3 x4 x5))
theorem b2r : OkC Tryz.prog 144 a4l := f8 _
def a6B : ACode := q' ([b' 4 false]) (.seq (q' ([m' 6 0, n' 7 6, m' 8 1, n' 9 8, o' 10 (.bin .neq (.t 7) (.t 9))]) (.cond (.t 10) (q' ([b' 4 false]) .ret) .skip)) (.seq (q' ([z' 5
 0]) (.block 0 (.loop (.seq (q' ([m' 11 5, m' 12 0, n' 13 12, r' 14 11 13]) (.cond (.t 14) .skip (.exit 0))) (.seq (.block 1 (.seq (.reg true [m' 17 0, m' 18
 5, i' 19 3 17 18, e' 20 3 19, m' 21 1, m' 22 5, i' 23 3 21 22, e' 24 3 23, c' 25 144 [20, 24], o' 26 (.not (.t 25))]) (.cond (.t 26) (q' ([b' 4 false]) .ret)
 .skip))) (g' [m' 15 5, a' 16 15, m' 5 16])))))) (q' ([b' 4 true]) .ret)))
theorem b4A : cmp Tryz.prog Tryz.f69 = some a6B := by kernel_rfl
theorem b7h (a : List c8) (b : List c8) : A0l Tryz.prog 69 [(false, [.sl false [.i .i64 0, .s [], .i .i64 0] (a.map c8.cells)]), (false, [.sl false [.i .i64 0, .s [], .i .i64 0] (b.map c8.cells)])] [] (.one (false, [.b (decide (a = b))])) := by
 refine spec_of2 false false none Tryz.func69 b4A (rvs := [.t 4]) (hΓ := mkCtx_ok (deep := false) (l := [(144, [], a4l)]) ⟨b2r, trivial⟩) (h := ?_)
 intro hb hE
 simp only [go_sem] at hb
 simp only [a6B, x']
 (try refine A2V ?_); simp only [go_sem]; (repeat' first | apply CJ.mk | intro hc); all_goals try ((repeat' first | apply And.intro | intro hs) <;> (try simp only [go_sem, Bool.and_eq_false_iff] at hs) <;> omega)
 ·symm
  rw [decide_eq_false_iff_not]
  rintro rfl
  simp at hc
 have hl : a.length = b.length := by simpa [Int.ofNat_inj] using hc
 refine aw_loop2 false [] [0, 1] [] [] (fun i : {i : Nat // i ≤ a.length ∧ a.take i = b.take i} => [(5, slV (.i .i64 i.1))]) (fun i => []) (fun i => []) (fun i => a.length - i.1) (⟨0, by simp⟩) _ rfl ?_ ?_
 ·simp only [go_sem]
  all_goals first | omega | ((repeat' apply And.intro) <;> first | omega | rfl | skip)
 intro S0 hS0 i
 simp only [go_sem] at hS0
 obtain ⟨i, hi, ht⟩ := i
 (try refine A2V ?_); simp only [go_sem, hS0]; (repeat' first | apply CJ.mk | intro hc); all_goals try ((repeat' first | apply And.intro | intro hs) <;> (try simp only [go_sem, Bool.and_eq_false_iff] at hs) <;> omega)
 ·exact (decide_eq_false (a0m default (i := i) (by simpa using hc))).symm
 ·(refine lpK_n2 (⟨i + 1, by omega, v6 ht (by omega) (by omega) (d := default) (by simpa using hc)⟩) _ rfl ?_; simp only [go_sem, hS0]; first | done | ((repeat' apply And.intro) <;> first | omega | (refine w64 ?_ ?_ ?_ <;> omega) | rfl | skip))
 ·exact (decide_eq_true (n0 hl ht (by omega))).symm
 all_goals trace_state
noncomputable def a2Z : CT := i5 (fun (x : (List c8) × (List c8)) => b7h x.1 x.2)
@[go_sem] theorem c4L (a b : List c8) : a2Z [(false, [.sl false [.i .i64 0, .s [], .i .i64 0] (a.map c8.cells)]), (false, [.sl false [.i .i64 0, .s [], .i .i64 0] (b.map c8.cells)])] = some (True, [], .one (false, [.b (decide (a = b))])) := f7 _ (by rintro ⟨_, _⟩ ⟨_, _⟩ h; simp at h; simp_all) (a, b)
theorem b1a : OkC Tryz.prog 69 a2Z := f8 _
def a3E : ACode := q' ([o' 2 (.box 2 (.t 0)), o' 3 (.box 2 (.t 1)), b' 4 false]) (.seq (q' ([f' 5 0 2, l' 6 5, f' 7 0 3, l' 8 7, c' 9 69 [6, 8], o' 10 (.not (.t 9))]) (.cond (.t
 10) (q' ([b' 4 false]) .ret) .skip)) (.seq (q' ([f' 11 1 2, l' 12 11, f' 13 1 3, l' 14 13, c' 15 70 [12, 14], o' 16 (.not (.t 15))]) (.cond (.t 16) (q' ([b' 4
 false]) .ret) .skip)) (q' ([b' 4 true]) .ret)))
theorem b1A : cmp Tryz.prog Tryz.f17 = some a3E := by kernel_rfl
theorem b3p (a : c7) (b : c7) : A0l Tryz.prog 17 [(true, [.sl false [.i .i64 0, .s [], .i .i64 0] (a.Decls.map c8.cells), .sl false [.i .i64 0, .s [], .sl false [.s [], .i .i64 0, .s []] [], .sl false [.i .i64 0, .s [], .sl false [.s [], .i .i64 0, .s []] [], .i .i64 0, .s [], .i .i64 0, .s [], .s [], .i .i64 0, .s []] []] (a.Rules.map (c6.cells false false))]), (true, [.sl false [.i .i64 0, .s [], .i .i64 0] (b.Decls.map c8.cells), .sl false [.i .i64 0, .s [], .sl false [.s [], .i .i64 0, .s []] [], .sl false [.i .i64 0, .s [], .sl false [.s [], .i .i64 0, .s []] [], .i .i64 0, .s [], .i .i64 0, .s [], .s [], .i .i64 0, .s []] []] (b.Rules.map (c6.cells false false))])] [] (.one (false, [.b (decide (a = b))])) := by
 refine spec_of2 false false none Tryz.func17 b1A (rvs := [.t 4]) (hΓ := mkCtx_ok (deep := false) (l := [(69, [], a2Z), (70, [], a3b)]) ⟨b1a, b1c, trivial⟩) (h := ?_)
 intro hb hE
 simp only [go_sem] at hb
 simp only [a3E, x']
 (try refine A2V ?_); simp only [go_sem]; (repeat' first | apply CJ.mk | intro hc); all_goals try ((repeat' first | apply And.intro | intro hs) <;> (try simp only [go_sem, Bool.and_eq_false_iff] at hs) <;> omega)
 all_goals (cases a; cases b; simp_all)
noncomputable def a0W : CT := i5 (fun (x : c7 × c7) => b3p x.1 x.2)
@[go_sem] theorem c2E (x0 : List c8) (x1 : List c6) (x2 : List c8) (x3 : List c6) : a0W [(true, [.sl false [.i .i64 0, .s [], .i .i64 0] (x0.map c8.cells), .sl false [.i .i64 0, .s [], .sl false [.s [], .i .i64 0, .s []] [], .sl false [.i .i64 0, .s [], .sl false [.s [], .i .i64 0, .s []] [], .i .i64 0, .s [], .i .i64 0, .s [], .s [], .i .i64 0, .s []] []] (x1.map (c6.cells false false))]), (true, [.sl false [.i .i64 0, .s [], .i .i64 0] (x2.map c8.cells), .sl false [.i .i64 0, .s [], .sl false [.s [], .i .i64 0, .s []] [], .sl false [.i .i64 0, .s [], .sl false [.s [], .i .i64 0, .s []] [], .i .i64 0, .s [], .i .i64 0, .s [], .s [], .i .i64 0, .s []] []] (x3.map (c6.cells false false))])] = some (True, [], .one (false, [.b (decide ((c7.mk x0 x1) = (c7.mk x2 x3)))])) := f7 _ (by rintro ⟨⟨_, _⟩, ⟨_, _⟩⟩ ⟨⟨_, _⟩, ⟨_, _⟩⟩ h; simp at h; simp_all) ((c7.mk x0 x1), (c7.mk x2 x3))
theorem a8S : OkC Tryz.prog 17 a0W := f8 _
end Go.Aw
