/- Programs: sizes, copies, equalities. No condition. -/
import Derived.Test.YthlbadfickhkfaaGreatzdB2
namespace Go.Aw
open Go.Proofs
attribute [local irreducible] aft blk lpK retK AW A0l
set_option linter.unusedVariables false
set_option linter.unusedSimpArgs false
set_option maxRecDepth 100000
def a2S (x : GAtom) : Nat := x.Name.length + (x.Args.length + j5 o6 x.Args)
def p7 (x : GLit) : Nat := a2S x.Atom + o6 x.A + o6 x.B
def m7 (x : GRule) : Nat := a2S x.Head + (x.Body.length + j5 p7 x.Body)
def s4 (x : GDecl) : Nat := x.Name.length
def a0p (x : GProgram) : Nat := (x.Decls.length + j5 s4 x.Decls) + (x.Rules.length + j5 m7 x.Rules)
def a5N : ACode := q' ([o' 2 (.box 2 (.t 0)), z' 4 0]) (q' ([m' 5 1, f' 6 0 2, l' 7 6, o' 8 (.lens (.t 7)), o' 9 (.bin .sub (.t 5) (.t 8)), m' 1 9]) (.seq (q' ([m' 10 1, o' 11
 (.bin .lss (.t 10) (k' 0))]) (.cond (.t 11) (q' ([o' 4 (.mov (.k (.v false [.c (.i .i64 (-1))])))]) .ret) .skip)) (q' ([f' 12 1 2, l' 13 12, m' 14 1, c' 15
 178 [13, 14], m' 1 15]) (.seq (q' ([m' 16 1, o' 17 (.bin .lss (.t 16) (k' 0))]) (.cond (.t 17) (q' ([o' 4 (.mov (.k (.v false [.c (.i .i64 (-1))])))]) .ret)
 .skip)) (q' ([m' 18 1, m' 4 18]) .ret)))))
theorem b3q : cmp Tryz.prog Tryz.f110 = some a5N := by kernel_rfl
theorem b5n (a : GAtom) (left : Int) (hpre : 0 ≤ left ∧ left ≤ 1048576) : A0l Tryz.prog 110 [(true, [.s a.Name, .sl false [.s [], .i .i64 0, .s []] (a.Args.map GTerm.cells)]), (false, [.i .i64 left])] [] (.one (false, [.i .i64 (szR left (a2S a : Nat))])) := by
 refine spec_of2 false false none Tryz.func110 b3q (rvs := [.t 4]) (hΓ := mkCtx_ok (deep := false) (l := [(178, [], a2b)]) ⟨a8P, trivial⟩) (h := ?_)
 intro hb hE
 simp only [go_sem] at hb
 simp only [a5N, x']
 (try refine A2V ?_); simp only [go_sem]; (repeat' first | apply CJ.mk | intro hc); all_goals try ((repeat' first | apply And.intro | intro hs) <;> (try simp only [go_sem, Bool.and_eq_false_iff] at hs) <;> omega)
 all_goals ((repeat (simp (disch := omega) only [t8] at *)) <;> (try simp only [szR, a2S] at *) <;> (first | omega | (split <;> omega)))
noncomputable def a0B : CT := n8 (fun (x : GAtom × Int) h => b5n x.1 x.2 h)
@[go_sem] theorem c1Y (a_Name : List UInt8) (a_Args : List GTerm) (left : Int) : a0B [(true, [.s a_Name, .sl false [.s [], .i .i64 0, .s []] (a_Args.map GTerm.cells)]), (false, [.i .i64 left])] = some (0 ≤ left ∧ left ≤ 1048576, [], .one (false, [.i .i64 (szR left (a2S (GAtom.mk a_Name a_Args) : Nat))])) := d3 _ (by rintro ⟨⟨_, _⟩, _⟩ ⟨⟨_, _⟩, _⟩ h; simp at h; simp_all) ((GAtom.mk a_Name a_Args), left)
theorem a3P : OkC Tryz.prog 110 a0B := d4 _
def a7m : ACode := q' ([o' 2 (.box 10 (.t 0)), z' 4 0]) (q' ([f' 5 1 2, e' 6 2 5, m' 7 1, c' 8 110 [6, 7], m' 1 8]) (.seq (q' ([m' 9 1, o' 10 (.bin .lss (.t 9) (k' 0))]) (.cond
 (.t 10) (q' ([o' 4 (.mov (.k (.v false [.c (.i .i64 (-1))])))]) .ret) .skip)) (q' ([f' 11 4 2, e' 12 3 11, m' 13 1, c' 14 263 [12, 13], m' 1 14]) (.seq (q'
 ([m' 15 1, o' 16 (.bin .lss (.t 15) (k' 0))]) (.cond (.t 16) (q' ([o' 4 (.mov (.k (.v false [.c (.i .i64 (-1))])))]) .ret) .skip)) (q' ([f' 17 7 2, e' 18 3
 17, m' 19 1, c' 20 263 [18, 19], m' 1 20]) (.seq (q' ([m' 21 1, o' 22 (.bin .lss (.t 21) (k' 0))]) (.cond (.t 22) (q' ([o' 4 (.mov (.k (.v false [.c (.i .i64
 (-1))])))]) .ret) .skip)) (q' ([m' 23 1, m' 4 23]) .ret)))))))
theorem b4Q : cmp Tryz.prog Tryz.f179 = some a7m := by kernel_rfl
theorem b6S (a : GLit) (left : Int) (hpre : 0 ≤ left ∧ left ≤ 1048576) : A0l Tryz.prog 179 [(true, [.i .i64 a.Kind, .s a.Atom.Name, .sl false [.s [], .i .i64 0, .s []] (a.Atom.Args.map GTerm.cells), .i .i64 a.Op, .s a.A.Var, .i .i64 a.A.Val.N, .s a.A.Val.S, .s a.B.Var, .i .i64 a.B.Val.N, .s a.B.Val.S]), (false, [.i .i64 left])] [] (.one (false, [.i .i64 (szR left (p7 a : Nat))])) := by
 refine spec_of2 false false none Tryz.func179 b4Q (rvs := [.t 4]) (hΓ := mkCtx_ok (deep := false) (l := [(110, [], a0B), (263, [], a0C)]) ⟨a3P, a3Q, trivial⟩) (h := ?_)
 intro hb hE
 simp only [go_sem] at hb
 simp only [a7m, x']
 (try refine A2V ?_); simp only [go_sem]; (repeat' first | apply CJ.mk | intro hc); all_goals try ((repeat' first | apply And.intro | intro hs) <;> (try simp only [go_sem, Bool.and_eq_false_iff] at hs) <;> omega)
 all_goals ((repeat (simp (disch := omega) only [t8] at *)) <;> (try simp only [szR, p7] at *) <;> (first | omega | (split <;> omega)))
noncomputable def a4u : CT := n8 (fun (x : GLit × Int) h => b6S x.1 x.2 h)
@[go_sem] theorem c2Y (a_Kind : Int) (a_Atom_Name : List UInt8) (a_Atom_Args : List GTerm) (a_Op : Int) (a_A_Var : List UInt8) (a_A_Val_N : Int) (a_A_Val_S : List UInt8) (a_B_Var : List UInt8) (a_B_Val_N : Int) (a_B_Val_S : List UInt8) (left : Int) : a4u [(true, [.i .i64 a_Kind, .s a_Atom_Name, .sl false [.s [], .i .i64 0, .s []] (a_Atom_Args.map GTerm.cells), .i .i64 a_Op, .s a_A_Var, .i .i64 a_A_Val_N, .s a_A_Val_S, .s a_B_Var, .i .i64 a_B_Val_N, .s a_B_Val_S]), (false, [.i .i64 left])] = some (0 ≤ left ∧ left ≤ 1048576, [], .one (false, [.i .i64 (szR left (p7 (GLit.mk a_Kind (GAtom.mk a_Atom_Name a_Atom_Args) a_Op (GTerm.mk a_A_Var (GValue.mk a_A_Val_N a_A_Val_S)) (GTerm.mk a_B_Var (GValue.mk a_B_Val_N a_B_Val_S))) : Nat))])) := d3 _ (by rintro ⟨⟨_, ⟨_, _⟩, _, ⟨_, ⟨_, _⟩⟩, ⟨_, ⟨_, _⟩⟩⟩, _⟩ ⟨⟨_, ⟨_, _⟩, _, ⟨_, ⟨_, _⟩⟩, ⟨_, ⟨_, _⟩⟩⟩, _⟩ h; simp at h; simp_all) ((GLit.mk a_Kind (GAtom.mk a_Atom_Name a_Atom_Args) a_Op (GTerm.mk a_A_Var (GValue.mk a_A_Val_N a_A_Val_S)) (GTerm.mk a_B_Var (GValue.mk a_B_Val_N a_B_Val_S))), left)
theorem b1p : OkC Tryz.prog 179 a4u := d4 _
def a5P : ACode := q' ([z' 4 0]) (q' ([m' 6 1, m' 7 0, n' 8 7, o' 9 (.bin .sub (.t 6) (.t 8)), m' 1 9]) (.seq (q' ([m' 10 1, o' 11 (.bin .lss (.t 10) (k' 0))]) (.cond (.t 11) (q'
 ([o' 4 (.mov (.k (.v false [.c (.i .i64 (-1))])))]) .ret) .skip)) (.seq (q' ([z' 5 0]) (.block 0 (.loop (.seq (q' ([m' 12 5, m' 13 0, n' 14 13, r' 15 12 14])
 (.cond (.t 15) .skip (.exit 0))) (.seq (.block 1 (q' ([m' 18 0, m' 19 5, i' 20 10 18 19, e' 21 10 20, m' 22 1, c' 23 179 [21, 22], m' 1 23]) (q' ([m' 24 1, o'
 25 (.bin .lss (.t 24) (k' 0))]) (.cond (.t 25) (q' ([o' 4 (.mov (.k (.v false [.c (.i .i64 (-1))])))]) .ret) .skip)))) (g' [m' 16 5, a' 17 16, m' 5 17]))))))
 (q' ([m' 26 1, m' 4 26]) .ret))))
theorem b3s : cmp Tryz.prog Tryz.f111 = some a5P := by kernel_rfl
theorem b5p (a : List GLit) (left : Int) (hpre : 0 ≤ left ∧ left ≤ 1048576) : A0l Tryz.prog 111 [(false, [.sl false [.i .i64 0, .s [], .sl false [.s [], .i .i64 0, .s []] [], .i .i64 0, .s [], .i .i64 0, .s [], .s [], .i .i64 0, .s []] (a.map (GLit.cells false false))]), (false, [.i .i64 left])] [] (.one (false, [.i .i64 (szR left ((a.length + j5 p7 a) : Nat))])) := by
 refine spec_of2 false false none Tryz.func111 b3s (rvs := [.t 4]) (hΓ := mkCtx_ok (deep := false) (l := [(179, [], a4u)]) ⟨b1p, trivial⟩) (h := ?_)
 intro hb hE
 simp only [go_sem] at hb
 simp only [a5P, x']
 (try refine A2V ?_); simp only [go_sem]; (repeat' first | apply CJ.mk | intro hc); all_goals try ((repeat' first | apply And.intro | intro hs) <;> (try simp only [go_sem, Bool.and_eq_false_iff] at hs) <;> omega)
 ·all_goals ((repeat (simp (disch := omega) only [t8] at *)) <;> (try simp only [szR, szR] at *) <;> (first | omega | (split <;> omega)))
 have hw := t8 (l := left) (n := a.length) (by omega) (by omega) (by omega) (by omega)
 rw [hw] at hc
 refine aw_loop2 false [] [0] [] [] (fun i : {i : Nat // i ≤ a.length ∧ (a.length : Int) + (j5 p7 (a.take i) : Nat) ≤ left} => [(5, slV (.i .i64 i.1)), (1, slV (.i .i64 (left - a.length - (j5 p7 (a.take i.1) : Nat))))]) (fun i => []) (fun i => []) (fun i => a.length - i.1) (⟨0, by simp only [List.take_zero, a4c]; omega⟩) _ rfl ?_ ?_
 ·simp only [go_sem, hw]
  all_goals first | omega | ((repeat' apply And.intro) <;> first | omega | rfl | skip)
 intro S0 hS0 i
 simp only [go_sem, hw] at hS0
 obtain ⟨i, hi, ht⟩ := i
 (try refine A2V ?_); simp only [go_sem, hw, hS0]; (repeat' first | apply CJ.mk | intro hc); all_goals try ((repeat' first | apply And.intro | intro hs) <;> (try simp only [go_sem, Bool.and_eq_false_iff] at hs) <;> omega)
 ·have h1 := i6 p7 (default : GLit) (show i < a.length by omega)
  have h2 := t7 p7 a (i + 1)
  all_goals ((repeat (simp (disch := omega) only [t8] at *)) <;> (try simp only [szR, szR] at *) <;> (first | omega | (split <;> omega)))
 ·have h1 := i6 p7 (default : GLit) (show i < a.length by omega)
  (refine lpK_n2 (⟨i + 1, by omega, by unfold szR at hc; split at hc <;> omega⟩) _ rfl ?_; simp only [go_sem, hw, hS0]; first | done | ((repeat' apply And.intro) <;> first | omega | (refine w64 ?_ ?_ ?_ <;> omega) | rfl | skip))
  rw [h1]
  unfold szR at hc ⊢
  split at hc <;> omega
 ·have h1 := a6G p7 (show ¬ i < a.length by omega)
  all_goals ((repeat (simp (disch := omega) only [t8] at *)) <;> (try simp only [szR, szR] at *) <;> (first | omega | (split <;> omega)))
 all_goals all_goals ((repeat (simp (disch := omega) only [t8] at *)) <;> (try simp only [szR, szR] at *) <;> (first | omega | (split <;> omega)))
noncomputable def a3b : CT := n8 (fun (x : (List GLit) × Int) h => b5p x.1 x.2 h)
@[go_sem] theorem c2a (a : List GLit) (left : Int) : a3b [(false, [.sl false [.i .i64 0, .s [], .sl false [.s [], .i .i64 0, .s []] [], .i .i64 0, .s [], .i .i64 0, .s [], .s [], .i .i64 0, .s []] (a.map (GLit.cells false false))]), (false, [.i .i64 left])] = some (0 ≤ left ∧ left ≤ 1048576, [], .one (false, [.i .i64 (szR left ((a.length + j5 p7 a) : Nat))])) := d3 _ (by rintro ⟨_, _⟩ ⟨_, _⟩ h; simp at h; simp_all) (a, left)
theorem a9W : OkC Tryz.prog 111 a3b := d4 _
def a5Q : ACode := q' ([o' 2 (.box 4 (.t 0)), z' 4 0]) (q' ([f' 5 1 2, e' 6 2 5, m' 7 1, c' 8 110 [6, 7], m' 1 8]) (.seq (q' ([m' 9 1, o' 10 (.bin .lss (.t 9) (k' 0))]) (.cond (.t
 10) (q' ([o' 4 (.mov (.k (.v false [.c (.i .i64 (-1))])))]) .ret) .skip)) (q' ([f' 11 3 2, l' 12 11, m' 13 1, c' 14 111 [12, 13], m' 1 14]) (.seq (q' ([m' 15
 1, o' 16 (.bin .lss (.t 15) (k' 0))]) (.cond (.t 16) (q' ([o' 4 (.mov (.k (.v false [.c (.i .i64 (-1))])))]) .ret) .skip)) (q' ([m' 17 1, m' 4 17]) .ret)))))
theorem b3t : cmp Tryz.prog Tryz.f46 = some a5Q := by kernel_rfl
theorem b5q (a : GRule) (left : Int) (hpre : 0 ≤ left ∧ left ≤ 1048576) : A0l Tryz.prog 46 [(true, [.i .i64 a.Kind, .s a.Head.Name, .sl false [.s [], .i .i64 0, .s []] (a.Head.Args.map GTerm.cells), .sl false [.i .i64 0, .s [], .sl false [.s [], .i .i64 0, .s []] [], .i .i64 0, .s [], .i .i64 0, .s [], .s [], .i .i64 0, .s []] (a.Body.map (GLit.cells false false))]), (false, [.i .i64 left])] [] (.one (false, [.i .i64 (szR left (m7 a : Nat))])) := by
 refine spec_of2 false false none Tryz.func46 b3t (rvs := [.t 4]) (hΓ := mkCtx_ok (deep := false) (l := [(110, [], a0B), (111, [], a3b)]) ⟨a3P, a9W, trivial⟩) (h := ?_)
 intro hb hE
 simp only [go_sem] at hb
 simp only [a5Q, x']
 (try refine A2V ?_); simp only [go_sem]; (repeat' first | apply CJ.mk | intro hc); all_goals try ((repeat' first | apply And.intro | intro hs) <;> (try simp only [go_sem, Bool.and_eq_false_iff] at hs) <;> omega)
 all_goals ((repeat (simp (disch := omega) only [t8] at *)) <;> (try simp only [szR, m7] at *) <;> (first | omega | (split <;> omega)))
noncomputable def a3c : CT := n8 (fun (x : GRule × Int) h => b5q x.1 x.2 h)
@[go_sem] theorem c2b (a_Kind : Int) (a_Head_Name : List UInt8) (a_Head_Args : List GTerm) (a_Body : List GLit) (left : Int) : a3c [(true, [.i .i64 a_Kind, .s a_Head_Name, .sl false [.s [], .i .i64 0, .s []] (a_Head_Args.map GTerm.cells), .sl false [.i .i64 0, .s [], .sl false [.s [], .i .i64 0, .s []] [], .i .i64 0, .s [], .i .i64 0, .s [], .s [], .i .i64 0, .s []] (a_Body.map (GLit.cells false false))]), (false, [.i .i64 left])] = some (0 ≤ left ∧ left ≤ 1048576, [], .one (false, [.i .i64 (szR left (m7 (GRule.mk a_Kind (GAtom.mk a_Head_Name a_Head_Args) a_Body) : Nat))])) := d3 _ (by rintro ⟨⟨_, ⟨_, _⟩, _⟩, _⟩ ⟨⟨_, ⟨_, _⟩, _⟩, _⟩ h; simp at h; simp_all) ((GRule.mk a_Kind (GAtom.mk a_Head_Name a_Head_Args) a_Body), left)
theorem a9X : OkC Tryz.prog 46 a3c := d4 _
def a4Z : ACode := q' ([z' 4 0]) (q' ([m' 6 1, m' 7 0, n' 8 7, o' 9 (.bin .sub (.t 6) (.t 8)), m' 1 9]) (.seq (q' ([m' 10 1, o' 11 (.bin .lss (.t 10) (k' 0))]) (.cond (.t 11) (q'
 ([o' 4 (.mov (.k (.v false [.c (.i .i64 (-1))])))]) .ret) .skip)) (.seq (q' ([z' 5 0]) (.block 0 (.loop (.seq (q' ([m' 12 5, m' 13 0, n' 14 13, r' 15 12 14])
 (.cond (.t 15) .skip (.exit 0))) (.seq (.block 1 (q' ([m' 18 0, m' 19 5, i' 20 4 18 19, e' 21 4 20, m' 22 1, c' 23 46 [21, 22], m' 1 23]) (q' ([m' 24 1, o' 25
 (.bin .lss (.t 24) (k' 0))]) (.cond (.t 25) (q' ([o' 4 (.mov (.k (.v false [.c (.i .i64 (-1))])))]) .ret) .skip)))) (g' [m' 16 5, a' 17 16, m' 5 17])))))) (q'
 ([m' 26 1, m' 4 26]) .ret))))
theorem b1O : cmp Tryz.prog Tryz.f61 = some a4Z := by kernel_rfl
theorem b4a (a : List GRule) (left : Int) (hpre : 0 ≤ left ∧ left ≤ 1048576) : A0l Tryz.prog 61 [(false, [.sl false [.i .i64 0, .s [], .sl false [.s [], .i .i64 0, .s []] [], .sl false [.i .i64 0, .s [], .sl false [.s [], .i .i64 0, .s []] [], .i .i64 0, .s [], .i .i64 0, .s [], .s [], .i .i64 0, .s []] []] (a.map (GRule.cells false false))]), (false, [.i .i64 left])] [] (.one (false, [.i .i64 (szR left ((a.length + j5 m7 a) : Nat))])) := by
 refine spec_of2 false false none Tryz.func61 b1O (rvs := [.t 4]) (hΓ := mkCtx_ok (deep := false) (l := [(46, [], a3c)]) ⟨a9X, trivial⟩) (h := ?_)
 intro hb hE
 simp only [go_sem] at hb
 simp only [a4Z, x']
 (try refine A2V ?_); simp only [go_sem]; (repeat' first | apply CJ.mk | intro hc); all_goals try ((repeat' first | apply And.intro | intro hs) <;> (try simp only [go_sem, Bool.and_eq_false_iff] at hs) <;> omega)
 ·all_goals ((repeat (simp (disch := omega) only [t8] at *)) <;> (try simp only [szR, szR] at *) <;> (first | omega | (split <;> omega)))
 have hw := t8 (l := left) (n := a.length) (by omega) (by omega) (by omega) (by omega)
 rw [hw] at hc
 refine aw_loop2 false [] [0] [] [] (fun i : {i : Nat // i ≤ a.length ∧ (a.length : Int) + (j5 m7 (a.take i) : Nat) ≤ left} => [(5, slV (.i .i64 i.1)), (1, slV (.i .i64 (left - a.length - (j5 m7 (a.take i.1) : Nat))))]) (fun i => []) (fun i => []) (fun i => a.length - i.1) (⟨0, by simp only [List.take_zero, a4c]; omega⟩) _ rfl ?_ ?_
 ·simp only [go_sem, hw]
  all_goals first | omega | ((repeat' apply And.intro) <;> first | omega | rfl | skip)
 intro S0 hS0 i
 simp only [go_sem, hw] at hS0
 obtain ⟨i, hi, ht⟩ := i
 (try refine A2V ?_); simp only [go_sem, hw, hS0]; (repeat' first | apply CJ.mk | intro hc); all_goals try ((repeat' first | apply And.intro | intro hs) <;> (try simp only [go_sem, Bool.and_eq_false_iff] at hs) <;> omega)
 ·have h1 := i6 m7 (default : GRule) (show i < a.length by omega)
  have h2 := t7 m7 a (i + 1)
  all_goals ((repeat (simp (disch := omega) only [t8] at *)) <;> (try simp only [szR, szR] at *) <;> (first | omega | (split <;> omega)))
 ·have h1 := i6 m7 (default : GRule) (show i < a.length by omega)
  (refine lpK_n2 (⟨i + 1, by omega, by unfold szR at hc; split at hc <;> omega⟩) _ rfl ?_; simp only [go_sem, hw, hS0]; first | done | ((repeat' apply And.intro) <;> first | omega | (refine w64 ?_ ?_ ?_ <;> omega) | rfl | skip))
  rw [h1]
  unfold szR at hc ⊢
  split at hc <;> omega
 ·have h1 := a6G m7 (show ¬ i < a.length by omega)
  all_goals ((repeat (simp (disch := omega) only [t8] at *)) <;> (try simp only [szR, szR] at *) <;> (first | omega | (split <;> omega)))
 all_goals all_goals ((repeat (simp (disch := omega) only [t8] at *)) <;> (try simp only [szR, szR] at *) <;> (first | omega | (split <;> omega)))
noncomputable def a2a : CT := n8 (fun (x : (List GRule) × Int) h => b4a x.1 x.2 h)
@[go_sem] theorem c0J (a : List GRule) (left : Int) : a2a [(false, [.sl false [.i .i64 0, .s [], .sl false [.s [], .i .i64 0, .s []] [], .sl false [.i .i64 0, .s [], .sl false [.s [], .i .i64 0, .s []] [], .i .i64 0, .s [], .i .i64 0, .s [], .s [], .i .i64 0, .s []] []] (a.map (GRule.cells false false))]), (false, [.i .i64 left])] = some (0 ≤ left ∧ left ≤ 1048576, [], .one (false, [.i .i64 (szR left ((a.length + j5 m7 a) : Nat))])) := d3 _ (by rintro ⟨_, _⟩ ⟨_, _⟩ h; simp at h; simp_all) (a, left)
theorem a8O : OkC Tryz.prog 61 a2a := d4 _
def a5O : ACode := q' ([o' 2 (.box 3 (.t 0)), z' 4 0]) (q' ([m' 5 1, f' 6 1 2, l' 7 6, o' 8 (.lens (.t 7)), o' 9 (.bin .sub (.t 5) (.t 8)), m' 1 9]) (.seq (q' ([m' 10 1, o' 11
 (.bin .lss (.t 10) (k' 0))]) (.cond (.t 11) (q' ([o' 4 (.mov (.k (.v false [.c (.i .i64 (-1))])))]) .ret) .skip)) (q' ([m' 12 1, m' 4 12]) .ret)))
theorem b3r : cmp Tryz.prog Tryz.f133 = some a5O := by kernel_rfl
theorem b5o (a : GDecl) (left : Int) (hpre : 0 ≤ left ∧ left ≤ 1048576) : A0l Tryz.prog 133 [(true, [.i .i64 a.Kind, .s a.Name, .i .i64 a.Arity]), (false, [.i .i64 left])] [] (.one (false, [.i .i64 (szR left (s4 a : Nat))])) := by
 refine spec_of2 false false none Tryz.func133 b3r (rvs := [.t 4]) (hΓ := mkCtx_ok (deep := false) (l := []) trivial) (h := ?_)
 intro hb hE
 simp only [go_sem] at hb
 simp only [a5O, x']
 (try refine A2V ?_); simp only [go_sem]; (repeat' first | apply CJ.mk | intro hc); all_goals try ((repeat' first | apply And.intro | intro hs) <;> (try simp only [go_sem, Bool.and_eq_false_iff] at hs) <;> omega)
 all_goals ((repeat (simp (disch := omega) only [t8] at *)) <;> (try simp only [szR, s4] at *) <;> (first | omega | (split <;> omega)))
noncomputable def a3a : CT := n8 (fun (x : GDecl × Int) h => b5o x.1 x.2 h)
@[go_sem] theorem c1Z (a_Kind : Int) (a_Name : List UInt8) (a_Arity : Int) (left : Int) : a3a [(true, [.i .i64 a_Kind, .s a_Name, .i .i64 a_Arity]), (false, [.i .i64 left])] = some (0 ≤ left ∧ left ≤ 1048576, [], .one (false, [.i .i64 (szR left (s4 (GDecl.mk a_Kind a_Name a_Arity) : Nat))])) := d3 _ (by rintro ⟨⟨_, _, _⟩, _⟩ ⟨⟨_, _, _⟩, _⟩ h; simp at h; simp_all) ((GDecl.mk a_Kind a_Name a_Arity), left)
theorem a9V : OkC Tryz.prog 133 a3a := d4 _
def a4X : ACode := q' ([z' 4 0]) (q' ([m' 6 1, m' 7 0, n' 8 7, o' 9 (.bin .sub (.t 6) (.t 8)), m' 1 9]) (.seq (q' ([m' 10 1, o' 11 (.bin .lss (.t 10) (k' 0))]) (.cond (.t 11) (q'
 ([o' 4 (.mov (.k (.v false [.c (.i .i64 (-1))])))]) .ret) .skip)) (.seq (q' ([z' 5 0]) (.block 0 (.loop (.seq (q' ([m' 12 5, m' 13 0, n' 14 13, r' 15 12 14])
 (.cond (.t 15) .skip (.exit 0))) (.seq (.block 1 (q' ([m' 18 0, m' 19 5, i' 20 3 18 19, e' 21 3 20, m' 22 1, c' 23 133 [21, 22], m' 1 23]) (q' ([m' 24 1, o'
 25 (.bin .lss (.t 24) (k' 0))]) (.cond (.t 25) (q' ([o' 4 (.mov (.k (.v false [.c (.i .i64 (-1))])))]) .ret) .skip)))) (g' [m' 16 5, a' 17 16, m' 5 17]))))))
 (q' ([m' 26 1, m' 4 26]) .ret))))
theorem b1M : cmp Tryz.prog Tryz.f60 = some a4X := by kernel_rfl
theorem b3Y (a : List GDecl) (left : Int) (hpre : 0 ≤ left ∧ left ≤ 1048576) : A0l Tryz.prog 60 [(false, [.sl false [.i .i64 0, .s [], .i .i64 0] (a.map GDecl.cells)]), (false, [.i .i64 left])] [] (.one (false, [.i .i64 (szR left ((a.length + j5 s4 a) : Nat))])) := by
 refine spec_of2 false false none Tryz.func60 b1M (rvs := [.t 4]) (hΓ := mkCtx_ok (deep := false) (l := [(133, [], a3a)]) ⟨a9V, trivial⟩) (h := ?_)
 intro hb hE
 simp only [go_sem] at hb
 simp only [a4X, x']
 (try refine A2V ?_); simp only [go_sem]; (repeat' first | apply CJ.mk | intro hc); all_goals try ((repeat' first | apply And.intro | intro hs) <;> (try simp only [go_sem, Bool.and_eq_false_iff] at hs) <;> omega)
 ·all_goals ((repeat (simp (disch := omega) only [t8] at *)) <;> (try simp only [szR, szR] at *) <;> (first | omega | (split <;> omega)))
 have hw := t8 (l := left) (n := a.length) (by omega) (by omega) (by omega) (by omega)
 rw [hw] at hc
 refine aw_loop2 false [] [0] [] [] (fun i : {i : Nat // i ≤ a.length ∧ (a.length : Int) + (j5 s4 (a.take i) : Nat) ≤ left} => [(5, slV (.i .i64 i.1)), (1, slV (.i .i64 (left - a.length - (j5 s4 (a.take i.1) : Nat))))]) (fun i => []) (fun i => []) (fun i => a.length - i.1) (⟨0, by simp only [List.take_zero, a4c]; omega⟩) _ rfl ?_ ?_
 ·simp only [go_sem, hw]
  all_goals first | omega | ((repeat' apply And.intro) <;> first | omega | rfl | skip)
 intro S0 hS0 i
 simp only [go_sem, hw] at hS0
 obtain ⟨i, hi, ht⟩ := i
 (try refine A2V ?_); simp only [go_sem, hw, hS0]; (repeat' first | apply CJ.mk | intro hc); all_goals try ((repeat' first | apply And.intro | intro hs) <;> (try simp only [go_sem, Bool.and_eq_false_iff] at hs) <;> omega)
 ·have h1 := i6 s4 (default : GDecl) (show i < a.length by omega)
  have h2 := t7 s4 a (i + 1)
  all_goals ((repeat (simp (disch := omega) only [t8] at *)) <;> (try simp only [szR, szR] at *) <;> (first | omega | (split <;> omega)))
 ·have h1 := i6 s4 (default : GDecl) (show i < a.length by omega)
  (refine lpK_n2 (⟨i + 1, by omega, by unfold szR at hc; split at hc <;> omega⟩) _ rfl ?_; simp only [go_sem, hw, hS0]; first | done | ((repeat' apply And.intro) <;> first | omega | (refine w64 ?_ ?_ ?_ <;> omega) | rfl | skip))
  rw [h1]
  unfold szR at hc ⊢
  split at hc <;> omega
 ·have h1 := a6G s4 (show ¬ i < a.length by omega)
  all_goals ((repeat (simp (disch := omega) only [t8] at *)) <;> (try simp only [szR, szR] at *) <;> (first | omega | (split <;> omega)))
 all_goals all_goals ((repeat (simp (disch := omega) only [t8] at *)) <;> (try simp only [szR, szR] at *) <;> (first | omega | (split <;> omega)))
noncomputable def a1Y : CT := n8 (fun (x : (List GDecl) × Int) h => b3Y x.1 x.2 h)
@[go_sem] theorem c0H (a : List GDecl) (left : Int) : a1Y [(false, [.sl false [.i .i64 0, .s [], .i .i64 0] (a.map GDecl.cells)]), (false, [.i .i64 left])] = some (0 ≤ left ∧ left ≤ 1048576, [], .one (false, [.i .i64 (szR left ((a.length + j5 s4 a) : Nat))])) := d3 _ (by rintro ⟨_, _⟩ ⟨_, _⟩ h; simp at h; simp_all) (a, left)
theorem a8M : OkC Tryz.prog 60 a1Y := d4 _
def a2u : ACode := q' ([o' 2 (.box 2 (.t 0)), z' 4 0]) (q' ([f' 5 0 2, l' 6 5, m' 7 1, c' 8 60 [6, 7], m' 1 8]) (.seq (q' ([m' 9 1, o' 10 (.bin .lss (.t 9) (k' 0))]) (.cond (.t
 10) (q' ([o' 4 (.mov (.k (.v false [.c (.i .i64 (-1))])))]) .ret) .skip)) (q' ([f' 11 1 2, l' 12 11, m' 13 1, c' 14 61 [12, 13], m' 1 14]) (.seq (q' ([m' 15
 1, o' 16 (.bin .lss (.t 15) (k' 0))]) (.cond (.t 16) (q' ([o' 4 (.mov (.k (.v false [.c (.i .i64 (-1))])))]) .ret) .skip)) (q' ([m' 17 1, m' 4 17]) .ret)))))
theorem a9g : cmp Tryz.prog Tryz.f12 = some a2u := by kernel_rfl
theorem b0H (a : GProgram) (left : Int) (hpre : 0 ≤ left ∧ left ≤ 1048576) : A0l Tryz.prog 12 [(true, [.sl false [.i .i64 0, .s [], .i .i64 0] (a.Decls.map GDecl.cells), .sl false [.i .i64 0, .s [], .sl false [.s [], .i .i64 0, .s []] [], .sl false [.i .i64 0, .s [], .sl false [.s [], .i .i64 0, .s []] [], .i .i64 0, .s [], .i .i64 0, .s [], .s [], .i .i64 0, .s []] []] (a.Rules.map (GRule.cells false false))]), (false, [.i .i64 left])] [] (.one (false, [.i .i64 (szR left (a0p a : Nat))])) := by
 refine spec_of2 false false none Tryz.func12 a9g (rvs := [.t 4]) (hΓ := mkCtx_ok (deep := false) (l := [(60, [], a1Y), (61, [], a2a)]) ⟨a8M, a8O, trivial⟩) (h := ?_)
 intro hb hE
 simp only [go_sem] at hb
 simp only [a2u, x']
 (try refine A2V ?_); simp only [go_sem]; (repeat' first | apply CJ.mk | intro hc); all_goals try ((repeat' first | apply And.intro | intro hs) <;> (try simp only [go_sem, Bool.and_eq_false_iff] at hs) <;> omega)
 all_goals ((repeat (simp (disch := omega) only [t8] at *)) <;> (try simp only [szR, a0p] at *) <;> (first | omega | (split <;> omega)))
noncomputable def a0h : CT := n8 (fun (x : GProgram × Int) h => b0H x.1 x.2 h)
@[go_sem] theorem b8H (a_Decls : List GDecl) (a_Rules : List GRule) (left : Int) : a0h [(true, [.sl false [.i .i64 0, .s [], .i .i64 0] (a_Decls.map GDecl.cells), .sl false [.i .i64 0, .s [], .sl false [.s [], .i .i64 0, .s []] [], .sl false [.i .i64 0, .s [], .sl false [.s [], .i .i64 0, .s []] [], .i .i64 0, .s [], .i .i64 0, .s [], .s [], .i .i64 0, .s []] []] (a_Rules.map (GRule.cells false false))]), (false, [.i .i64 left])] = some (0 ≤ left ∧ left ≤ 1048576, [], .one (false, [.i .i64 (szR left (a0p (GProgram.mk a_Decls a_Rules) : Nat))])) := d3 _ (by rintro ⟨⟨_, _⟩, _⟩ ⟨⟨_, _⟩, _⟩ h; simp at h; simp_all) ((GProgram.mk a_Decls a_Rules), left)
theorem a6S : OkC Tryz.prog 12 a0h := d4 _
def a5S : ACode := q' ([o' 1 (.box 2 (.t 0)), w' 2 [.s, .sl [.s [], .i .i64 0, .s []]]]) (q' ([w' 3 [.s, .sl [.s [], .i .i64 0, .s []]]]) (q' ([f' 4 0 1, l' 5 4, f' 6 0 3, s' 1 6
 5]) (q' ([f' 7 1 1, l' 8 7, c' 9 189 [8], f' 10 1 3, s' 1 10 9]) (q' ([e' 11 2 3, s' 2 2 11]) .ret))))
theorem b3v : cmp Tryz.prog Tryz.f115 = some a5S := by kernel_rfl
theorem b5s (a : GAtom) (hpre : (a2S a : Int) ≤ 1048576) : A0l Tryz.prog 115 [(true, [.s a.Name, .sl false [.s [], .i .i64 0, .s []] (a.Args.map GTerm.cells)])] [] (.one (true, [.s a.Name, .sl true [.s [], .i .i64 0, .s []] (a.Args.map GTerm.cells)])) := by
 refine spec_of2 true false none Tryz.func115 b3v (rvs := [.c 2 true 2]) (hΓ := mkCtx_ok (deep := true) (l := [(189, [], a2f)]) ⟨a8T, trivial⟩) (h := ?_)
 intro hb hE
 simp only [go_sem] at hb
 simp only [a5S, x']
 (try refine A2V ?_); simp only [go_sem]; (repeat' first | apply CJ.mk | intro hc); all_goals try ((repeat' first | apply And.intro | intro hs) <;> (try simp only [go_sem, Bool.and_eq_false_iff] at hs) <;> omega)
 all_goals (simp only [a2S] at *; omega)
noncomputable def a0D : CT := n8 (fun (x : GAtom) h => b5s x h)
@[go_sem] theorem c2d (a_Name : List UInt8) (a_Args : List GTerm) : a0D [(true, [.s a_Name, .sl false [.s [], .i .i64 0, .s []] (a_Args.map GTerm.cells)])] = some ((a2S (GAtom.mk a_Name a_Args) : Int) ≤ 1048576, [], .one (true, [.s ((GAtom.mk a_Name a_Args).Name), .sl true [.s [], .i .i64 0, .s []] (((GAtom.mk a_Name a_Args).Args).map GTerm.cells)])) := d3 _ (by rintro ⟨_, _⟩ ⟨_, _⟩ h; simp at h; simp_all) (GAtom.mk a_Name a_Args)
theorem a3R : OkC Tryz.prog 115 a0D := d4 _
def a7o : ACode := q' ([o' 1 (.box 10 (.t 0)), w' 2 [.i .i64, .s, .sl [.s [], .i .i64 0, .s []], .i .i64, .s, .i .i64, .s, .s, .i .i64, .s]]) (q' ([w' 3 [.i .i64, .s, .sl [.s [],
 .i .i64 0, .s []], .i .i64, .s, .i .i64, .s, .s, .i .i64, .s]]) (q' ([f' 4 0 1, l' 5 4, f' 6 0 3, s' 1 6 5]) (q' ([f' 7 1 1, e' 8 2 7, c' 9 115 [8], f' 10 1
 3, s' 2 10 9]) (q' ([f' 11 3 1, l' 12 11, f' 13 3 3, s' 1 13 12]) (q' ([f' 14 4 1, e' 15 3 14, c' 16 272 [15], f' 17 4 3, s' 3 17 16]) (q' ([f' 18 7 1, e' 19
 3 18, c' 20 272 [19], f' 21 7 3, s' 3 21 20]) (q' ([e' 22 10 3, s' 10 2 22]) .ret)))))))
theorem b4S : cmp Tryz.prog Tryz.f190 = some a7o := by kernel_rfl
theorem b6U (a : GLit) (hpre : (p7 a : Int) ≤ 1048576) : A0l Tryz.prog 190 [(true, [.i .i64 a.Kind, .s a.Atom.Name, .sl false [.s [], .i .i64 0, .s []] (a.Atom.Args.map GTerm.cells), .i .i64 a.Op, .s a.A.Var, .i .i64 a.A.Val.N, .s a.A.Val.S, .s a.B.Var, .i .i64 a.B.Val.N, .s a.B.Val.S])] [] (.one (true, [.i .i64 a.Kind, .s a.Atom.Name, .sl true [.s [], .i .i64 0, .s []] (a.Atom.Args.map GTerm.cells), .i .i64 a.Op, .s a.A.Var, .i .i64 a.A.Val.N, .s a.A.Val.S, .s a.B.Var, .i .i64 a.B.Val.N, .s a.B.Val.S])) := by
 refine spec_of2 true false none Tryz.func190 b4S (rvs := [.c 2 true 10]) (hΓ := mkCtx_ok (deep := true) (l := [(115, [], a0D), (272, [], a0E)]) ⟨a3R, a3S, trivial⟩) (h := ?_)
 intro hb hE
 simp only [go_sem] at hb
 simp only [a7o, x']
 (try refine A2V ?_); simp only [go_sem]; (repeat' first | apply CJ.mk | intro hc); all_goals try ((repeat' first | apply And.intro | intro hs) <;> (try simp only [go_sem, Bool.and_eq_false_iff] at hs) <;> omega)
 all_goals (simp only [p7] at *; omega)
noncomputable def a4w : CT := n8 (fun (x : GLit) h => b6U x h)
@[go_sem] theorem c3a (a_Kind : Int) (a_Atom_Name : List UInt8) (a_Atom_Args : List GTerm) (a_Op : Int) (a_A_Var : List UInt8) (a_A_Val_N : Int) (a_A_Val_S : List UInt8) (a_B_Var : List UInt8) (a_B_Val_N : Int) (a_B_Val_S : List UInt8) : a4w [(true, [.i .i64 a_Kind, .s a_Atom_Name, .sl false [.s [], .i .i64 0, .s []] (a_Atom_Args.map GTerm.cells), .i .i64 a_Op, .s a_A_Var, .i .i64 a_A_Val_N, .s a_A_Val_S, .s a_B_Var, .i .i64 a_B_Val_N, .s a_B_Val_S])] = some ((p7 (GLit.mk a_Kind (GAtom.mk a_Atom_Name a_Atom_Args) a_Op (GTerm.mk a_A_Var (GValue.mk a_A_Val_N a_A_Val_S)) (GTerm.mk a_B_Var (GValue.mk a_B_Val_N a_B_Val_S))) : Int) ≤ 1048576, [], .one (true, [.i .i64 ((GLit.mk a_Kind (GAtom.mk a_Atom_Name a_Atom_Args) a_Op (GTerm.mk a_A_Var (GValue.mk a_A_Val_N a_A_Val_S)) (GTerm.mk a_B_Var (GValue.mk a_B_Val_N a_B_Val_S))).Kind), .s (((GLit.mk a_Kind (GAtom.mk a_Atom_Name a_Atom_Args) a_Op (GTerm.mk a_A_Var (GValue.mk a_A_Val_N a_A_Val_S)) (GTerm.mk a_B_Var (GValue.mk a_B_Val_N a_B_Val_S))).Atom).Name), .sl true [.s [], .i .i64 0, .s []] ((((GLit.mk a_Kind (GAtom.mk a_Atom_Name a_Atom_Args) a_Op (GTerm.mk a_A_Var (GValue.mk a_A_Val_N a_A_Val_S)) (GTerm.mk a_B_Var (GValue.mk a_B_Val_N a_B_Val_S))).Atom).Args).map GTerm.cells), .i .i64 ((GLit.mk a_Kind (GAtom.mk a_Atom_Name a_Atom_Args) a_Op (GTerm.mk a_A_Var (GValue.mk a_A_Val_N a_A_Val_S)) (GTerm.mk a_B_Var (GValue.mk a_B_Val_N a_B_Val_S))).Op), .s (((GLit.mk a_Kind (GAtom.mk a_Atom_Name a_Atom_Args) a_Op (GTerm.mk a_A_Var (GValue.mk a_A_Val_N a_A_Val_S)) (GTerm.mk a_B_Var (GValue.mk a_B_Val_N a_B_Val_S))).A).Var), .i .i64 ((((GLit.mk a_Kind (GAtom.mk a_Atom_Name a_Atom_Args) a_Op (GTerm.mk a_A_Var (GValue.mk a_A_Val_N a_A_Val_S)) (GTerm.mk a_B_Var (GValue.mk a_B_Val_N a_B_Val_S))).A).Val).N), .s ((((GLit.mk a_Kind (GAtom.mk a_Atom_Name a_Atom_Args) a_Op (GTerm.mk a_A_Var (GValue.mk a_A_Val_N a_A_Val_S)) (GTerm.mk a_B_Var (GValue.mk a_B_Val_N a_B_Val_S))).A).Val).S), .s (((GLit.mk a_Kind (GAtom.mk a_Atom_Name a_Atom_Args) a_Op (GTerm.mk a_A_Var (GValue.mk a_A_Val_N a_A_Val_S)) (GTerm.mk a_B_Var (GValue.mk a_B_Val_N a_B_Val_S))).B).Var), .i .i64 ((((GLit.mk a_Kind (GAtom.mk a_Atom_Name a_Atom_Args) a_Op (GTerm.mk a_A_Var (GValue.mk a_A_Val_N a_A_Val_S)) (GTerm.mk a_B_Var (GValue.mk a_B_Val_N a_B_Val_S))).B).Val).N), .s ((((GLit.mk a_Kind (GAtom.mk a_Atom_Name a_Atom_Args) a_Op (GTerm.mk a_A_Var (GValue.mk a_A_Val_N a_A_Val_S)) (GTerm.mk a_B_Var (GValue.mk a_B_Val_N a_B_Val_S))).B).Val).S)])) := d3 _ (by rintro ⟨_, ⟨_, _⟩, _, ⟨_, ⟨_, _⟩⟩, ⟨_, ⟨_, _⟩⟩⟩ ⟨_, ⟨_, _⟩, _, ⟨_, ⟨_, _⟩⟩, ⟨_, ⟨_, _⟩⟩⟩ h; simp at h; simp_all) (GLit.mk a_Kind (GAtom.mk a_Atom_Name a_Atom_Args) a_Op (GTerm.mk a_A_Var (GValue.mk a_A_Val_N a_A_Val_S)) (GTerm.mk a_B_Var (GValue.mk a_B_Val_N a_B_Val_S)))
theorem b1r : OkC Tryz.prog 190 a4w := d4 _
def a5U : ACode := q' ([o' 2 (.mov (.k (.v false [.nl [.i .i64 0, .s [], .sl false [.s [], .i .i64 0, .s []] [], .i .i64 0, .s [], .i .i64 0, .s [], .s [], .i .i64 0, .s []]])))])
 (q' ([m' 5 0, n' 6 5, o' 7 (.mks 10 136 [.i .i64, .s, .sl [.s [], .i .i64 0, .s []], .i .i64, .s, .i .i64, .s, .s, .i .i64, .s] (.t 6) (.t 6)), m' 3 7]) (.seq
 (q' ([z' 4 0]) (.block 0 (.loop (.seq (q' ([m' 8 4, m' 9 0, n' 10 9, r' 11 8 10]) (.cond (.t 11) .skip (.exit 0))) (.seq (.block 1 (g' [m' 14 3, m' 15 4, m'
 16 0, m' 17 4, i' 18 10 16 17, e' 19 10 18, c' 20 190 [19], i' 21 10 14 15, s' 10 21 20])) (g' [m' 12 4, a' 13 12, m' 4 13])))))) (q' ([m' 22 3, m' 2 22])
 .ret)))
theorem b3x : cmp Tryz.prog Tryz.f116 = some a5U := by kernel_rfl
theorem b5u (a : List GLit) (hpre : (((a.length + j5 p7 a) : Nat) : Int) ≤ 1048576) : A0l Tryz.prog 116 [(false, [.sl false [.i .i64 0, .s [], .sl false [.s [], .i .i64 0, .s []] [], .i .i64 0, .s [], .i .i64 0, .s [], .s [], .i .i64 0, .s []] (a.map (GLit.cells false false))])] [] (.one (false, [.sl true [.i .i64 0, .s [], .sl true [.s [], .i .i64 0, .s []] [], .i .i64 0, .s [], .i .i64 0, .s [], .s [], .i .i64 0, .s []] (a.map (GLit.cells true true))])) := by
 refine spec_of2 true false none Tryz.func116 b3x (rvs := [.t 2]) (hΓ := mkCtx_ok (deep := true) (l := [(190, [], a4w)]) ⟨b1r, trivial⟩) (h := ?_)
 intro hb hE
 simp only [go_sem] at hb
 simp only [a5U, x']
 (try refine A2V ?_); simp only [go_sem, a5w]; (repeat' first | apply CJ.mk | intro hc); all_goals try ((repeat' first | apply And.intro | intro hs) <;> (try simp only [go_sem, Bool.and_eq_false_iff] at hs) <;> omega)
 refine aw_loop2 true [] [0, 3] [] [] (fun i : {p : Nat × (List GLit) // p.1 ≤ a.length ∧ p.2.length = a.length ∧ p.2.take p.1 = a.take p.1} => [(4, slV (.i .i64 i.1.1))]) (fun i => []) (fun i => [(896, [.i .i64 0, .s [], .sl true [.s [], .i .i64 0, .s []] [], .i .i64 0, .s [], .i .i64 0, .s [], .s [], .i .i64 0, .s []], i.1.2.map (GLit.cells true true))]) (fun i => a.length - i.1.1) (⟨(0, List.replicate a.length default), by simp⟩) _ rfl ?_ ?_
 ·simp only [go_sem, a5w]
  all_goals first | omega | ((repeat' apply And.intro) <;> first | omega | rfl | skip)
 intro S0 hS0 i
 simp only [go_sem, a5w] at hS0
 obtain ⟨⟨i, L⟩, hi, hl, ht⟩ := i
 simp only at hi hl ht
 have hg := b6d p7 a i default rfl
 (try refine A2V ?_); simp only [go_sem, a5w, hS0]; (repeat' first | apply CJ.mk | intro hc); all_goals try ((repeat' first | apply And.intro | intro hs) <;> (try simp only [go_sem, Bool.and_eq_false_iff] at hs) <;> omega)
 ·(refine lpK_n2 (⟨(i + 1, L.set i (a.getD i default)), by simp only; omega, by simp [hl], u3 hl ht (by omega)⟩) _ rfl ?_; simp only [go_sem, a5w, hS0]; first | done | ((repeat' apply And.intro) <;> first | omega | (refine w64 ?_ ?_ ?_ <;> omega) | rfl | skip))
 ·obtain rfl := o5 hl ht (by omega)
  rfl
 all_goals trace_state
noncomputable def a3e : CT := n8 (fun (x : (List GLit)) h => b5u x h)
@[go_sem] theorem c2f (a : List GLit) : a3e [(false, [.sl false [.i .i64 0, .s [], .sl false [.s [], .i .i64 0, .s []] [], .i .i64 0, .s [], .i .i64 0, .s [], .s [], .i .i64 0, .s []] (a.map (GLit.cells false false))])] = some ((((a.length + j5 p7 a) : Nat) : Int) ≤ 1048576, [], .one (false, [.sl true [.i .i64 0, .s [], .sl true [.s [], .i .i64 0, .s []] [], .i .i64 0, .s [], .i .i64 0, .s [], .s [], .i .i64 0, .s []] (a.map (GLit.cells true true))])) := d3 _ (by intro x y h; simp at h; simp_all) a
theorem a9Z : OkC Tryz.prog 116 a3e := d4 _
def a5V : ACode := q' ([o' 1 (.box 4 (.t 0)), w' 2 [.i .i64, .s, .sl [.s [], .i .i64 0, .s []], .sl [.i .i64 0, .s [], .sl false [.s [], .i .i64 0, .s []] [], .i .i64 0, .s [], .i
 .i64 0, .s [], .s [], .i .i64 0, .s []]]]) (q' ([w' 3 [.i .i64, .s, .sl [.s [], .i .i64 0, .s []], .sl [.i .i64 0, .s [], .sl false [.s [], .i .i64 0, .s []]
 [], .i .i64 0, .s [], .i .i64 0, .s [], .s [], .i .i64 0, .s []]]]) (q' ([f' 4 0 1, l' 5 4, f' 6 0 3, s' 1 6 5]) (q' ([f' 7 1 1, e' 8 2 7, c' 9 115 [8], f' 10
 1 3, s' 2 10 9]) (q' ([f' 11 3 1, l' 12 11, c' 13 116 [12], f' 14 3 3, s' 1 14 13]) (q' ([e' 15 4 3, s' 4 2 15]) .ret)))))
theorem b3y : cmp Tryz.prog Tryz.f48 = some a5V := by kernel_rfl
theorem b5v (a : GRule) (hpre : (m7 a : Int) ≤ 1048576) : A0l Tryz.prog 48 [(true, [.i .i64 a.Kind, .s a.Head.Name, .sl false [.s [], .i .i64 0, .s []] (a.Head.Args.map GTerm.cells), .sl false [.i .i64 0, .s [], .sl false [.s [], .i .i64 0, .s []] [], .i .i64 0, .s [], .i .i64 0, .s [], .s [], .i .i64 0, .s []] (a.Body.map (GLit.cells false false))])] [] (.one (true, [.i .i64 a.Kind, .s a.Head.Name, .sl true [.s [], .i .i64 0, .s []] (a.Head.Args.map GTerm.cells), .sl true [.i .i64 0, .s [], .sl true [.s [], .i .i64 0, .s []] [], .i .i64 0, .s [], .i .i64 0, .s [], .s [], .i .i64 0, .s []] (a.Body.map (GLit.cells true true))])) := by
 refine spec_of2 true false none Tryz.func48 b3y (rvs := [.c 2 true 4]) (hΓ := mkCtx_ok (deep := true) (l := [(115, [], a0D), (116, [], a3e)]) ⟨a3R, a9Z, trivial⟩) (h := ?_)
 intro hb hE
 simp only [go_sem] at hb
 simp only [a5V, x']
 (try refine A2V ?_); simp only [go_sem]; (repeat' first | apply CJ.mk | intro hc); all_goals try ((repeat' first | apply And.intro | intro hs) <;> (try simp only [go_sem, Bool.and_eq_false_iff] at hs) <;> omega)
 all_goals (simp only [m7] at *; omega)
noncomputable def a3f : CT := n8 (fun (x : GRule) h => b5v x h)
@[go_sem] theorem c2g (a_Kind : Int) (a_Head_Name : List UInt8) (a_Head_Args : List GTerm) (a_Body : List GLit) : a3f [(true, [.i .i64 a_Kind, .s a_Head_Name, .sl false [.s [], .i .i64 0, .s []] (a_Head_Args.map GTerm.cells), .sl false [.i .i64 0, .s [], .sl false [.s [], .i .i64 0, .s []] [], .i .i64 0, .s [], .i .i64 0, .s [], .s [], .i .i64 0, .s []] (a_Body.map (GLit.cells false false))])] = some ((m7 (GRule.mk a_Kind (GAtom.mk a_Head_Name a_Head_Args) a_Body) : Int) ≤ 1048576, [], .one (true, [.i .i64 ((GRule.mk a_Kind (GAtom.mk a_Head_Name a_Head_Args) a_Body).Kind), .s (((GRule.mk a_Kind (GAtom.mk a_Head_Name a_Head_Args) a_Body).Head).Name), .sl true [.s [], .i .i64 0, .s []] ((((GRule.mk a_Kind (GAtom.mk a_Head_Name a_Head_Args) a_Body).Head).Args).map GTerm.cells), .sl true [.i .i64 0, .s [], .sl true [.s [], .i .i64 0, .s []] [], .i .i64 0, .s [], .i .i64 0, .s [], .s [], .i .i64 0, .s []] (((GRule.mk a_Kind (GAtom.mk a_Head_Name a_Head_Args) a_Body).Body).map (GLit.cells true true))])) := d3 _ (by rintro ⟨_, ⟨_, _⟩, _⟩ ⟨_, ⟨_, _⟩, _⟩ h; simp at h; simp_all) (GRule.mk a_Kind (GAtom.mk a_Head_Name a_Head_Args) a_Body)
theorem b0a : OkC Tryz.prog 48 a3f := d4 _
def a5e : ACode := q' ([o' 2 (.mov (.k (.v false [.nl [.i .i64 0, .s [], .sl false [.s [], .i .i64 0, .s []] [], .sl false [.i .i64 0, .s [], .sl false [.s [], .i .i64 0, .s []]
 [], .i .i64 0, .s [], .i .i64 0, .s [], .s [], .i .i64 0, .s []] []]])))]) (q' ([m' 5 0, n' 6 5, o' 7 (.mks 4 72 [.i .i64, .s, .sl [.s [], .i .i64 0, .s []],
 .sl [.i .i64 0, .s [], .sl false [.s [], .i .i64 0, .s []] [], .i .i64 0, .s [], .i .i64 0, .s [], .s [], .i .i64 0, .s []]] (.t 6) (.t 6)), m' 3 7]) (.seq
 (q' ([z' 4 0]) (.block 0 (.loop (.seq (q' ([m' 8 4, m' 9 0, n' 10 9, r' 11 8 10]) (.cond (.t 11) .skip (.exit 0))) (.seq (.block 1 (g' [m' 14 3, m' 15 4, m'
 16 0, m' 17 4, i' 18 4 16 17, e' 19 4 18, c' 20 48 [19], i' 21 4 14 15, s' 4 21 20])) (g' [m' 12 4, a' 13 12, m' 4 13])))))) (q' ([m' 22 3, m' 2 22]) .ret)))
theorem b1T : cmp Tryz.prog Tryz.f65 = some a5e := by kernel_rfl
theorem b4f (a : List GRule) (hpre : (((a.length + j5 m7 a) : Nat) : Int) ≤ 1048576) : A0l Tryz.prog 65 [(false, [.sl false [.i .i64 0, .s [], .sl false [.s [], .i .i64 0, .s []] [], .sl false [.i .i64 0, .s [], .sl false [.s [], .i .i64 0, .s []] [], .i .i64 0, .s [], .i .i64 0, .s [], .s [], .i .i64 0, .s []] []] (a.map (GRule.cells false false))])] [] (.one (false, [.sl true [.i .i64 0, .s [], .sl true [.s [], .i .i64 0, .s []] [], .sl true [.i .i64 0, .s [], .sl true [.s [], .i .i64 0, .s []] [], .i .i64 0, .s [], .i .i64 0, .s [], .s [], .i .i64 0, .s []] []] (a.map (GRule.cells true true))])) := by
 refine spec_of2 true false none Tryz.func65 b1T (rvs := [.t 2]) (hΓ := mkCtx_ok (deep := true) (l := [(48, [], a3f)]) ⟨b0a, trivial⟩) (h := ?_)
 intro hb hE
 simp only [go_sem] at hb
 simp only [a5e, x']
 (try refine A2V ?_); simp only [go_sem, a3l]; (repeat' first | apply CJ.mk | intro hc); all_goals try ((repeat' first | apply And.intro | intro hs) <;> (try simp only [go_sem, Bool.and_eq_false_iff] at hs) <;> omega)
 refine aw_loop2 true [] [0, 3] [] [] (fun i : {p : Nat × (List GRule) // p.1 ≤ a.length ∧ p.2.length = a.length ∧ p.2.take p.1 = a.take p.1} => [(4, slV (.i .i64 i.1.1))]) (fun i => []) (fun i => [(896, [.i .i64 0, .s [], .sl true [.s [], .i .i64 0, .s []] [], .sl true [.i .i64 0, .s [], .sl true [.s [], .i .i64 0, .s []] [], .i .i64 0, .s [], .i .i64 0, .s [], .s [], .i .i64 0, .s []] []], i.1.2.map (GRule.cells true true))]) (fun i => a.length - i.1.1) (⟨(0, List.replicate a.length default), by simp⟩) _ rfl ?_ ?_
 ·simp only [go_sem, a3l]
  all_goals first | omega | ((repeat' apply And.intro) <;> first | omega | rfl | skip)
 intro S0 hS0 i
 simp only [go_sem, a3l] at hS0
 obtain ⟨⟨i, L⟩, hi, hl, ht⟩ := i
 simp only at hi hl ht
 have hg := b6d m7 a i default rfl
 (try refine A2V ?_); simp only [go_sem, a3l, hS0]; (repeat' first | apply CJ.mk | intro hc); all_goals try ((repeat' first | apply And.intro | intro hs) <;> (try simp only [go_sem, Bool.and_eq_false_iff] at hs) <;> omega)
 ·(refine lpK_n2 (⟨(i + 1, L.set i (a.getD i default)), by simp only; omega, by simp [hl], u3 hl ht (by omega)⟩) _ rfl ?_; simp only [go_sem, a3l, hS0]; first | done | ((repeat' apply And.intro) <;> first | omega | (refine w64 ?_ ?_ ?_ <;> omega) | rfl | skip))
 ·obtain rfl := o5 hl ht (by omega)
  rfl
 all_goals trace_state
noncomputable def a2e : CT := n8 (fun (x : (List GRule)) h => b4f x h)
@[go_sem] theorem c0O (a : List GRule) : a2e [(false, [.sl false [.i .i64 0, .s [], .sl false [.s [], .i .i64 0, .s []] [], .sl false [.i .i64 0, .s [], .sl false [.s [], .i .i64 0, .s []] [], .i .i64 0, .s [], .i .i64 0, .s [], .s [], .i .i64 0, .s []] []] (a.map (GRule.cells false false))])] = some ((((a.length + j5 m7 a) : Nat) : Int) ≤ 1048576, [], .one (false, [.sl true [.i .i64 0, .s [], .sl true [.s [], .i .i64 0, .s []] [], .sl true [.i .i64 0, .s [], .sl true [.s [], .i .i64 0, .s []] [], .i .i64 0, .s [], .i .i64 0, .s [], .s [], .i .i64 0, .s []] []] (a.map (GRule.cells true true))])) := d3 _ (by intro x y h; simp at h; simp_all) a
theorem a8S : OkC Tryz.prog 65 a2e := d4 _
def a5T : ACode := q' ([o' 1 (.box 3 (.t 0)), w' 2 [.i .i64, .s, .i .i64]]) (q' ([w' 3 [.i .i64, .s, .i .i64]]) (q' ([f' 4 0 1, l' 5 4, f' 6 0 3, s' 1 6 5]) (q' ([f' 7 1 1, l' 8
 7, f' 9 1 3, s' 1 9 8]) (q' ([f' 10 2 1, l' 11 10, f' 12 2 3, s' 1 12 11]) (q' ([e' 13 3 3, s' 3 2 13]) .ret)))))
theorem b3w : cmp Tryz.prog Tryz.f137 = some a5T := by kernel_rfl
theorem b5t (a : GDecl) : A0l Tryz.prog 137 [(true, [.i .i64 a.Kind, .s a.Name, .i .i64 a.Arity])] [] (.one (true, [.i .i64 a.Kind, .s a.Name, .i .i64 a.Arity])) := by
 refine spec_of2 true false none Tryz.func137 b3w (rvs := [.c 2 true 3]) (hΓ := mkCtx_ok (deep := true) (l := []) trivial) (h := ?_)
 intro hb hE
 simp only [go_sem] at hb
 simp only [a5T, x']
 (try refine A2V ?_); simp only [go_sem]; (repeat' first | apply CJ.mk | intro hc); all_goals try ((repeat' first | apply And.intro | intro hs) <;> (try simp only [go_sem, Bool.and_eq_false_iff] at hs) <;> omega)
noncomputable def a3d : CT := c8 (fun (x : GDecl) => b5t x)
@[go_sem] theorem c2e (a_Kind : Int) (a_Name : List UInt8) (a_Arity : Int) : a3d [(true, [.i .i64 a_Kind, .s a_Name, .i .i64 a_Arity])] = some (True, [], .one (true, [.i .i64 ((GDecl.mk a_Kind a_Name a_Arity).Kind), .s ((GDecl.mk a_Kind a_Name a_Arity).Name), .i .i64 ((GDecl.mk a_Kind a_Name a_Arity).Arity)])) := c4 _ (by rintro ⟨_, _, _⟩ ⟨_, _, _⟩ h; simp at h; simp_all) (GDecl.mk a_Kind a_Name a_Arity)
theorem a9Y : OkC Tryz.prog 137 a3d := c5 _
def a5c : ACode := q' ([o' 2 (.mov (.k (.v false [.nl [.i .i64 0, .s [], .i .i64 0]])))]) (q' ([m' 5 0, n' 6 5, o' 7 (.mks 3 32 [.i .i64, .s, .i .i64] (.t 6) (.t 6)), m' 3 7])
 (.seq (q' ([z' 4 0]) (.block 0 (.loop (.seq (q' ([m' 8 4, m' 9 0, n' 10 9, r' 11 8 10]) (.cond (.t 11) .skip (.exit 0))) (.seq (.block 1 (g' [m' 14 3, m' 15
 4, m' 16 0, m' 17 4, i' 18 3 16 17, e' 19 3 18, c' 20 137 [19], i' 21 3 14 15, s' 3 21 20])) (g' [m' 12 4, a' 13 12, m' 4 13])))))) (q' ([m' 22 3, m' 2 22])
 .ret)))
theorem b1R : cmp Tryz.prog Tryz.f64 = some a5c := by kernel_rfl
theorem b4d (a : List GDecl) (hpre : (((a.length + j5 s4 a) : Nat) : Int) ≤ 1048576) : A0l Tryz.prog 64 [(false, [.sl false [.i .i64 0, .s [], .i .i64 0] (a.map GDecl.cells)])] [] (.one (false, [.sl true [.i .i64 0, .s [], .i .i64 0] (a.map GDecl.cells)])) := by
 refine spec_of2 true false none Tryz.func64 b1R (rvs := [.t 2]) (hΓ := mkCtx_ok (deep := true) (l := [(137, [], a3d)]) ⟨a9Y, trivial⟩) (h := ?_)
 intro hb hE
 simp only [go_sem] at hb
 simp only [a5c, x']
 (try refine A2V ?_); simp only [go_sem, a3k]; (repeat' first | apply CJ.mk | intro hc); all_goals try ((repeat' first | apply And.intro | intro hs) <;> (try simp only [go_sem, Bool.and_eq_false_iff] at hs) <;> omega)
 refine aw_loop2 true [] [0, 3] [] [] (fun i : {p : Nat × (List GDecl) // p.1 ≤ a.length ∧ p.2.length = a.length ∧ p.2.take p.1 = a.take p.1} => [(4, slV (.i .i64 i.1.1))]) (fun i => []) (fun i => [(896, [.i .i64 0, .s [], .i .i64 0], i.1.2.map GDecl.cells)]) (fun i => a.length - i.1.1) (⟨(0, List.replicate a.length default), by simp⟩) _ rfl ?_ ?_
 ·simp only [go_sem, a3k]
  all_goals first | omega | ((repeat' apply And.intro) <;> first | omega | rfl | skip)
 intro S0 hS0 i
 simp only [go_sem, a3k] at hS0
 obtain ⟨⟨i, L⟩, hi, hl, ht⟩ := i
 simp only at hi hl ht
 (try refine A2V ?_); simp only [go_sem, a3k, hS0]; (repeat' first | apply CJ.mk | intro hc); all_goals try ((repeat' first | apply And.intro | intro hs) <;> (try simp only [go_sem, Bool.and_eq_false_iff] at hs) <;> omega)
 ·(refine lpK_n2 (⟨(i + 1, L.set i (a.getD i default)), by simp only; omega, by simp [hl], u3 hl ht (by omega)⟩) _ rfl ?_; simp only [go_sem, a3k, hS0]; first | done | ((repeat' apply And.intro) <;> first | omega | (refine w64 ?_ ?_ ?_ <;> omega) | rfl | skip))
 ·obtain rfl := o5 hl ht (by omega)
  rfl
 all_goals trace_state
noncomputable def a2c : CT := n8 (fun (x : (List GDecl)) h => b4d x h)
@[go_sem] theorem c0M (a : List GDecl) : a2c [(false, [.sl false [.i .i64 0, .s [], .i .i64 0] (a.map GDecl.cells)])] = some ((((a.length + j5 s4 a) : Nat) : Int) ≤ 1048576, [], .one (false, [.sl true [.i .i64 0, .s [], .i .i64 0] (a.map GDecl.cells)])) := d3 _ (by intro x y h; simp at h; simp_all) a
theorem a8Q : OkC Tryz.prog 64 a2c := d4 _
def a2v : ACode := q' ([o' 1 (.box 2 (.t 0)), w' 2 [.sl [.i .i64 0, .s [], .i .i64 0], .sl [.i .i64 0, .s [], .sl false [.s [], .i .i64 0, .s []] [], .sl false [.i .i64 0, .s [],
 .sl false [.s [], .i .i64 0, .s []] [], .i .i64 0, .s [], .i .i64 0, .s [], .s [], .i .i64 0, .s []] []]]]) (q' ([w' 3 [.sl [.i .i64 0, .s [], .i .i64 0], .sl
 [.i .i64 0, .s [], .sl false [.s [], .i .i64 0, .s []] [], .sl false [.i .i64 0, .s [], .sl false [.s [], .i .i64 0, .s []] [], .i .i64 0, .s [], .i .i64 0,
 .s [], .s [], .i .i64 0, .s []] []]]]) (q' ([f' 4 0 1, l' 5 4, c' 6 64 [5], f' 7 0 3, s' 1 7 6]) (q' ([f' 8 1 1, l' 9 8, c' 10 65 [9], f' 11 1 3, s' 1 11 10])
 (q' ([e' 12 2 3, s' 2 2 12]) .ret))))
theorem a9h : cmp Tryz.prog Tryz.f14 = some a2v := by kernel_rfl
theorem b0I (a : GProgram) (hpre : (a0p a : Int) ≤ 1048576) : A0l Tryz.prog 14 [(true, [.sl false [.i .i64 0, .s [], .i .i64 0] (a.Decls.map GDecl.cells), .sl false [.i .i64 0, .s [], .sl false [.s [], .i .i64 0, .s []] [], .sl false [.i .i64 0, .s [], .sl false [.s [], .i .i64 0, .s []] [], .i .i64 0, .s [], .i .i64 0, .s [], .s [], .i .i64 0, .s []] []] (a.Rules.map (GRule.cells false false))])] [] (.one (true, [.sl true [.i .i64 0, .s [], .i .i64 0] (a.Decls.map GDecl.cells), .sl true [.i .i64 0, .s [], .sl true [.s [], .i .i64 0, .s []] [], .sl true [.i .i64 0, .s [], .sl true [.s [], .i .i64 0, .s []] [], .i .i64 0, .s [], .i .i64 0, .s [], .s [], .i .i64 0, .s []] []] (a.Rules.map (GRule.cells true true))])) := by
 refine spec_of2 true false none Tryz.func14 a9h (rvs := [.c 2 true 2]) (hΓ := mkCtx_ok (deep := true) (l := [(64, [], a2c), (65, [], a2e)]) ⟨a8Q, a8S, trivial⟩) (h := ?_)
 intro hb hE
 simp only [go_sem] at hb
 simp only [a2v, x']
 (try refine A2V ?_); simp only [go_sem]; (repeat' first | apply CJ.mk | intro hc); all_goals try ((repeat' first | apply And.intro | intro hs) <;> (try simp only [go_sem, Bool.and_eq_false_iff] at hs) <;> omega)
 all_goals (simp only [a0p] at *; omega)
noncomputable def a0i : CT := n8 (fun (x : GProgram) h => b0I x h)
@[go_sem] theorem b8I (a_Decls : List GDecl) (a_Rules : List GRule) : a0i [(true, [.sl false [.i .i64 0, .s [], .i .i64 0] (a_Decls.map GDecl.cells), .sl false [.i .i64 0, .s [], .sl false [.s [], .i .i64 0, .s []] [], .sl false [.i .i64 0, .s [], .sl false [.s [], .i .i64 0, .s []] [], .i .i64 0, .s [], .i .i64 0, .s [], .s [], .i .i64 0, .s []] []] (a_Rules.map (GRule.cells false false))])] = some ((a0p (GProgram.mk a_Decls a_Rules) : Int) ≤ 1048576, [], .one (true, [.sl true [.i .i64 0, .s [], .i .i64 0] (((GProgram.mk a_Decls a_Rules).Decls).map GDecl.cells), .sl true [.i .i64 0, .s [], .sl true [.s [], .i .i64 0, .s []] [], .sl true [.i .i64 0, .s [], .sl true [.s [], .i .i64 0, .s []] [], .i .i64 0, .s [], .i .i64 0, .s [], .s [], .i .i64 0, .s []] []] (((GProgram.mk a_Decls a_Rules).Rules).map (GRule.cells true true))])) := d3 _ (by rintro ⟨_, _⟩ ⟨_, _⟩ h; simp at h; simp_all) (GProgram.mk a_Decls a_Rules)
theorem a6T : OkC Tryz.prog 14 a0i := d4 _
def a5I : ACode := q' ([o' 2 (.box 2 (.t 0)), o' 3 (.box 2 (.t 1)), b' 4 false]) (.seq (q' ([f' 5 0 2, l' 6 5, f' 7 0 3, l' 8 7, o' 9 (.bin .neq (.t 6) (.t 8))]) (.cond (.t 9) (q'
 ([b' 4 false]) .ret) .skip)) (.seq (q' ([f' 10 1 2, l' 11 10, f' 12 1 3, l' 13 12, c' 14 205 [11, 13], o' 15 (.not (.t 14))]) (.cond (.t 15) (q' ([b' 4
 false]) .ret) .skip)) (q' ([b' 4 true]) .ret)))
theorem b3l : cmp Tryz.prog Tryz.f122 = some a5I := by kernel_rfl
theorem b5i (a : GAtom) (b : GAtom) : A0l Tryz.prog 122 [(true, [.s a.Name, .sl false [.s [], .i .i64 0, .s []] (a.Args.map GTerm.cells)]), (true, [.s b.Name, .sl false [.s [], .i .i64 0, .s []] (b.Args.map GTerm.cells)])] [] (.one (false, [.b (decide (a = b))])) := by
 refine spec_of2 false false none Tryz.func122 b3l (rvs := [.t 4]) (hΓ := mkCtx_ok (deep := false) (l := [(205, [], a1X)]) ⟨a8L, trivial⟩) (h := ?_)
 intro hb hE
 simp only [go_sem] at hb
 simp only [a5I, x']
 (try refine A2V ?_); simp only [go_sem]; (repeat' first | apply CJ.mk | intro hc); all_goals try ((repeat' first | apply And.intro | intro hs) <;> (try simp only [go_sem, Bool.and_eq_false_iff] at hs) <;> omega)
 all_goals (cases a; cases b; simp_all)
noncomputable def a0z : CT := c8 (fun (x : GAtom × GAtom) => b5i x.1 x.2)
@[go_sem] theorem c1T (a_Name : List UInt8) (a_Args : List GTerm) (b_Name : List UInt8) (b_Args : List GTerm) : a0z [(true, [.s a_Name, .sl false [.s [], .i .i64 0, .s []] (a_Args.map GTerm.cells)]), (true, [.s b_Name, .sl false [.s [], .i .i64 0, .s []] (b_Args.map GTerm.cells)])] = some (True, [], .one (false, [.b (decide ((GAtom.mk a_Name a_Args) = (GAtom.mk b_Name b_Args)))])) := c4 _ (by rintro ⟨⟨_, _⟩, ⟨_, _⟩⟩ ⟨⟨_, _⟩, ⟨_, _⟩⟩ h; simp at h; simp_all) ((GAtom.mk a_Name a_Args), (GAtom.mk b_Name b_Args))
theorem a3N : OkC Tryz.prog 122 a0z := c5 _
def a7k : ACode := q' ([o' 2 (.box 10 (.t 0)), o' 3 (.box 10 (.t 1)), b' 4 false]) (.seq (q' ([f' 5 0 2, l' 6 5, f' 7 0 3, l' 8 7, o' 9 (.bin .neq (.t 6) (.t 8))]) (.cond (.t 9)
 (q' ([b' 4 false]) .ret) .skip)) (.seq (q' ([f' 10 1 2, e' 11 2 10, f' 12 1 3, e' 13 2 12, c' 14 122 [11, 13], o' 15 (.not (.t 14))]) (.cond (.t 15) (q' ([b'
 4 false]) .ret) .skip)) (.seq (q' ([f' 16 3 2, l' 17 16, f' 18 3 3, l' 19 18, o' 20 (.bin .neq (.t 17) (.t 19))]) (.cond (.t 20) (q' ([b' 4 false]) .ret)
 .skip)) (.seq (q' ([f' 21 4 2, e' 22 3 21, f' 23 4 3, e' 24 3 23, c' 25 289 [22, 24], o' 26 (.not (.t 25))]) (.cond (.t 26) (q' ([b' 4 false]) .ret) .skip))
 (.seq (q' ([f' 27 7 2, e' 28 3 27, f' 29 7 3, e' 30 3 29, c' 31 289 [28, 30], o' 32 (.not (.t 31))]) (.cond (.t 32) (q' ([b' 4 false]) .ret) .skip)) (q' ([b'
 4 true]) .ret))))))
theorem b4O : cmp Tryz.prog Tryz.f206 = some a7k := by kernel_rfl
theorem b6Q (a : GLit) (b : GLit) : A0l Tryz.prog 206 [(true, [.i .i64 a.Kind, .s a.Atom.Name, .sl false [.s [], .i .i64 0, .s []] (a.Atom.Args.map GTerm.cells), .i .i64 a.Op, .s a.A.Var, .i .i64 a.A.Val.N, .s a.A.Val.S, .s a.B.Var, .i .i64 a.B.Val.N, .s a.B.Val.S]), (true, [.i .i64 b.Kind, .s b.Atom.Name, .sl false [.s [], .i .i64 0, .s []] (b.Atom.Args.map GTerm.cells), .i .i64 b.Op, .s b.A.Var, .i .i64 b.A.Val.N, .s b.A.Val.S, .s b.B.Var, .i .i64 b.B.Val.N, .s b.B.Val.S])] [] (.one (false, [.b (decide (a = b))])) := by
 refine spec_of2 false false none Tryz.func206 b4O (rvs := [.t 4]) (hΓ := mkCtx_ok (deep := false) (l := [(122, [], a0z), (289, [], a0A)]) ⟨a3N, a3O, trivial⟩) (h := ?_)
 intro hb hE
 simp only [go_sem] at hb
 simp only [a7k, x']
 (try refine A2V ?_); simp only [go_sem]; (repeat' first | apply CJ.mk | intro hc); all_goals try ((repeat' first | apply And.intro | intro hs) <;> (try simp only [go_sem, Bool.and_eq_false_iff] at hs) <;> omega)
 all_goals (cases a; cases b; simp_all)
noncomputable def a4s : CT := c8 (fun (x : GLit × GLit) => b6Q x.1 x.2)
@[go_sem] theorem c2W (a_Kind : Int) (a_Atom_Name : List UInt8) (a_Atom_Args : List GTerm) (a_Op : Int) (a_A_Var : List UInt8) (a_A_Val_N : Int) (a_A_Val_S : List UInt8) (a_B_Var : List UInt8) (a_B_Val_N : Int) (a_B_Val_S : List UInt8) (b_Kind : Int) (b_Atom_Name : List UInt8) (b_Atom_Args : List GTerm) (b_Op : Int) (b_A_Var : List UInt8) (b_A_Val_N : Int) (b_A_Val_S : List UInt8) (b_B_Var : List UInt8) (b_B_Val_N : Int) (b_B_Val_S : List UInt8) : a4s [(true, [.i .i64 a_Kind, .s a_Atom_Name, .sl false [.s [], .i .i64 0, .s []] (a_Atom_Args.map GTerm.cells), .i .i64 a_Op, .s a_A_Var, .i .i64 a_A_Val_N, .s a_A_Val_S, .s a_B_Var, .i .i64 a_B_Val_N, .s a_B_Val_S]), (true, [.i .i64 b_Kind, .s b_Atom_Name, .sl false [.s [], .i .i64 0, .s []] (b_Atom_Args.map GTerm.cells), .i .i64 b_Op, .s b_A_Var, .i .i64 b_A_Val_N, .s b_A_Val_S, .s b_B_Var, .i .i64 b_B_Val_N, .s b_B_Val_S])] = some (True, [], .one (false, [.b (decide ((GLit.mk a_Kind (GAtom.mk a_Atom_Name a_Atom_Args) a_Op (GTerm.mk a_A_Var (GValue.mk a_A_Val_N a_A_Val_S)) (GTerm.mk a_B_Var (GValue.mk a_B_Val_N a_B_Val_S))) = (GLit.mk b_Kind (GAtom.mk b_Atom_Name b_Atom_Args) b_Op (GTerm.mk b_A_Var (GValue.mk b_A_Val_N b_A_Val_S)) (GTerm.mk b_B_Var (GValue.mk b_B_Val_N b_B_Val_S)))))])) := c4 _ (by rintro ⟨⟨_, ⟨_, _⟩, _, ⟨_, ⟨_, _⟩⟩, ⟨_, ⟨_, _⟩⟩⟩, ⟨_, ⟨_, _⟩, _, ⟨_, ⟨_, _⟩⟩, ⟨_, ⟨_, _⟩⟩⟩⟩ ⟨⟨_, ⟨_, _⟩, _, ⟨_, ⟨_, _⟩⟩, ⟨_, ⟨_, _⟩⟩⟩, ⟨_, ⟨_, _⟩, _, ⟨_, ⟨_, _⟩⟩, ⟨_, ⟨_, _⟩⟩⟩⟩ h; simp at h; simp_all) ((GLit.mk a_Kind (GAtom.mk a_Atom_Name a_Atom_Args) a_Op (GTerm.mk a_A_Var (GValue.mk a_A_Val_N a_A_Val_S)) (GTerm.mk a_B_Var (GValue.mk a_B_Val_N a_B_Val_S))), (GLit.mk b_Kind (GAtom.mk b_Atom_Name b_Atom_Args) b_Op (GTerm.mk b_A_Var (GValue.mk b_A_Val_N b_A_Val_S)) (GTerm.mk b_B_Var (GValue.mk b_B_Val_N b_B_Val_S))))
theorem b1n : OkC Tryz.prog 206 a4s := c5 _
def a5K : ACode := q' ([b' 4 false]) (.seq (q' ([m' 6 0, n' 7 6, m' 8 1, n' 9 8, o' 10 (.bin .neq (.t 7) (.t 9))]) (.cond (.t 10) (q' ([b' 4 false]) .ret) .skip)) (.seq (q' ([z' 5
 0]) (.block 0 (.loop (.seq (q' ([m' 11 5, m' 12 0, n' 13 12, r' 14 11 13]) (.cond (.t 14) .skip (.exit 0))) (.seq (.block 1 (.seq (.reg true [m' 17 0, m' 18
 5, i' 19 10 17 18, e' 20 10 19, m' 21 1, m' 22 5, i' 23 10 21 22, e' 24 10 23, c' 25 206 [20, 24], o' 26 (.not (.t 25))]) (.cond (.t 26) (q' ([b' 4 false])
 .ret) .skip))) (g' [m' 15 5, a' 16 15, m' 5 16])))))) (q' ([b' 4 true]) .ret)))
theorem b3n : cmp Tryz.prog Tryz.f123 = some a5K := by kernel_rfl
theorem b5k (a : List GLit) (b : List GLit) : A0l Tryz.prog 123 [(false, [.sl false [.i .i64 0, .s [], .sl false [.s [], .i .i64 0, .s []] [], .i .i64 0, .s [], .i .i64 0, .s [], .s [], .i .i64 0, .s []] (a.map (GLit.cells false false))]), (false, [.sl false [.i .i64 0, .s [], .sl false [.s [], .i .i64 0, .s []] [], .i .i64 0, .s [], .i .i64 0, .s [], .s [], .i .i64 0, .s []] (b.map (GLit.cells false false))])] [] (.one (false, [.b (decide (a = b))])) := by
 refine spec_of2 false false none Tryz.func123 b3n (rvs := [.t 4]) (hΓ := mkCtx_ok (deep := false) (l := [(206, [], a4s)]) ⟨b1n, trivial⟩) (h := ?_)
 intro hb hE
 simp only [go_sem] at hb
 simp only [a5K, x']
 (try refine A2V ?_); simp only [go_sem]; (repeat' first | apply CJ.mk | intro hc); all_goals try ((repeat' first | apply And.intro | intro hs) <;> (try simp only [go_sem, Bool.and_eq_false_iff] at hs) <;> omega)
 ·symm
  rw [decide_eq_false_iff_not]
  rintro rfl
  simp at hc
 have hl : a.length = b.length := by simpa [Int.ofNat_inj] using hc
 refine aw_loop2 false [] [0, 1] [] [] (fun i : {i : Nat // i ≤ a.length ∧ a.take i = b.take i} => [(5, slV (.i .i64 i.1))]) (fun i => []) (fun i => []) (fun i => a.length - i.1) (⟨0, by simp⟩) _ rfl ?_ ?_
 ·simp only [go_sem]
  all_goals first | omega | ((repeat' apply And.intro) <;> first | omega | rfl | skip)
 intro S0 hS0 i
 simp only [go_sem] at hS0
 obtain ⟨i, hi, ht⟩ := i
 (try refine A2V ?_); simp only [go_sem, hS0]; (repeat' first | apply CJ.mk | intro hc); all_goals try ((repeat' first | apply And.intro | intro hs) <;> (try simp only [go_sem, Bool.and_eq_false_iff] at hs) <;> omega)
 ·exact (decide_eq_false (a2m default (i := i) (by simpa using hc))).symm
 ·(refine lpK_n2 (⟨i + 1, by omega, z7 ht (by omega) (by omega) (d := default) (by simpa using hc)⟩) _ rfl ?_; simp only [go_sem, hS0]; first | done | ((repeat' apply And.intro) <;> first | omega | (refine w64 ?_ ?_ ?_ <;> omega) | rfl | skip))
 ·exact (decide_eq_true (o5 hl ht (by omega))).symm
 all_goals trace_state
noncomputable def a2Y : CT := c8 (fun (x : (List GLit) × (List GLit)) => b5k x.1 x.2)
@[go_sem] theorem c1V (a : List GLit) (b : List GLit) : a2Y [(false, [.sl false [.i .i64 0, .s [], .sl false [.s [], .i .i64 0, .s []] [], .i .i64 0, .s [], .i .i64 0, .s [], .s [], .i .i64 0, .s []] (a.map (GLit.cells false false))]), (false, [.sl false [.i .i64 0, .s [], .sl false [.s [], .i .i64 0, .s []] [], .i .i64 0, .s [], .i .i64 0, .s [], .s [], .i .i64 0, .s []] (b.map (GLit.cells false false))])] = some (True, [], .one (false, [.b (decide (a = b))])) := c4 _ (by rintro ⟨_, _⟩ ⟨_, _⟩ h; simp at h; simp_all) (a, b)
theorem a9T : OkC Tryz.prog 123 a2Y := c5 _
def a5L : ACode := q' ([o' 2 (.box 4 (.t 0)), o' 3 (.box 4 (.t 1)), b' 4 false]) (.seq (q' ([f' 5 0 2, l' 6 5, f' 7 0 3, l' 8 7, o' 9 (.bin .neq (.t 6) (.t 8))]) (.cond (.t 9) (q'
 ([b' 4 false]) .ret) .skip)) (.seq (q' ([f' 10 1 2, e' 11 2 10, f' 12 1 3, e' 13 2 12, c' 14 122 [11, 13], o' 15 (.not (.t 14))]) (.cond (.t 15) (q' ([b' 4
 false]) .ret) .skip)) (.seq (q' ([f' 16 3 2, l' 17 16, f' 18 3 3, l' 19 18, c' 20 123 [17, 19], o' 21 (.not (.t 20))]) (.cond (.t 21) (q' ([b' 4 false]) .ret)
 .skip)) (q' ([b' 4 true]) .ret))))
theorem b3o : cmp Tryz.prog Tryz.f51 = some a5L := by kernel_rfl
theorem b5l (a : GRule) (b : GRule) : A0l Tryz.prog 51 [(true, [.i .i64 a.Kind, .s a.Head.Name, .sl false [.s [], .i .i64 0, .s []] (a.Head.Args.map GTerm.cells), .sl false [.i .i64 0, .s [], .sl false [.s [], .i .i64 0, .s []] [], .i .i64 0, .s [], .i .i64 0, .s [], .s [], .i .i64 0, .s []] (a.Body.map (GLit.cells false false))]), (true, [.i .i64 b.Kind, .s b.Head.Name, .sl false [.s [], .i .i64 0, .s []] (b.Head.Args.map GTerm.cells), .sl false [.i .i64 0, .s [], .sl false [.s [], .i .i64 0, .s []] [], .i .i64 0, .s [], .i .i64 0, .s [], .s [], .i .i64 0, .s []] (b.Body.map (GLit.cells false false))])] [] (.one (false, [.b (decide (a = b))])) := by
 refine spec_of2 false false none Tryz.func51 b3o (rvs := [.t 4]) (hΓ := mkCtx_ok (deep := false) (l := [(122, [], a0z), (123, [], a2Y)]) ⟨a3N, a9T, trivial⟩) (h := ?_)
 intro hb hE
 simp only [go_sem] at hb
 simp only [a5L, x']
 (try refine A2V ?_); simp only [go_sem]; (repeat' first | apply CJ.mk | intro hc); all_goals try ((repeat' first | apply And.intro | intro hs) <;> (try simp only [go_sem, Bool.and_eq_false_iff] at hs) <;> omega)
 all_goals (cases a; cases b; simp_all)
noncomputable def a2Z : CT := c8 (fun (x : GRule × GRule) => b5l x.1 x.2)
@[go_sem] theorem c1W (a_Kind : Int) (a_Head_Name : List UInt8) (a_Head_Args : List GTerm) (a_Body : List GLit) (b_Kind : Int) (b_Head_Name : List UInt8) (b_Head_Args : List GTerm) (b_Body : List GLit) : a2Z [(true, [.i .i64 a_Kind, .s a_Head_Name, .sl false [.s [], .i .i64 0, .s []] (a_Head_Args.map GTerm.cells), .sl false [.i .i64 0, .s [], .sl false [.s [], .i .i64 0, .s []] [], .i .i64 0, .s [], .i .i64 0, .s [], .s [], .i .i64 0, .s []] (a_Body.map (GLit.cells false false))]), (true, [.i .i64 b_Kind, .s b_Head_Name, .sl false [.s [], .i .i64 0, .s []] (b_Head_Args.map GTerm.cells), .sl false [.i .i64 0, .s [], .sl false [.s [], .i .i64 0, .s []] [], .i .i64 0, .s [], .i .i64 0, .s [], .s [], .i .i64 0, .s []] (b_Body.map (GLit.cells false false))])] = some (True, [], .one (false, [.b (decide ((GRule.mk a_Kind (GAtom.mk a_Head_Name a_Head_Args) a_Body) = (GRule.mk b_Kind (GAtom.mk b_Head_Name b_Head_Args) b_Body)))])) := c4 _ (by rintro ⟨⟨_, ⟨_, _⟩, _⟩, ⟨_, ⟨_, _⟩, _⟩⟩ ⟨⟨_, ⟨_, _⟩, _⟩, ⟨_, ⟨_, _⟩, _⟩⟩ h; simp at h; simp_all) ((GRule.mk a_Kind (GAtom.mk a_Head_Name a_Head_Args) a_Body), (GRule.mk b_Kind (GAtom.mk b_Head_Name b_Head_Args) b_Body))
theorem a9U : OkC Tryz.prog 51 a2Z := c5 _
def a4U : ACode := q' ([b' 4 false]) (.seq (q' ([m' 6 0, n' 7 6, m' 8 1, n' 9 8, o' 10 (.bin .neq (.t 7) (.t 9))]) (.cond (.t 10) (q' ([b' 4 false]) .ret) .skip)) (.seq (q' ([z' 5
 0]) (.block 0 (.loop (.seq (q' ([m' 11 5, m' 12 0, n' 13 12, r' 14 11 13]) (.cond (.t 14) .skip (.exit 0))) (.seq (.block 1 (.seq (.reg true [m' 17 0, m' 18
 5, i' 19 4 17 18, e' 20 4 19, m' 21 1, m' 22 5, i' 23 4 21 22, e' 24 4 23, c' 25 51 [20, 24], o' 26 (.not (.t 25))]) (.cond (.t 26) (q' ([b' 4 false]) .ret)
 .skip))) (g' [m' 15 5, a' 16 15, m' 5 16])))))) (q' ([b' 4 true]) .ret)))
theorem b1J : cmp Tryz.prog Tryz.f70 = some a4U := by kernel_rfl
theorem b3V (a : List GRule) (b : List GRule) : A0l Tryz.prog 70 [(false, [.sl false [.i .i64 0, .s [], .sl false [.s [], .i .i64 0, .s []] [], .sl false [.i .i64 0, .s [], .sl false [.s [], .i .i64 0, .s []] [], .i .i64 0, .s [], .i .i64 0, .s [], .s [], .i .i64 0, .s []] []] (a.map (GRule.cells false false))]), (false, [.sl false [.i .i64 0, .s [], .sl false [.s [], .i .i64 0, .s []] [], .sl false [.i .i64 0, .s [], .sl false [.s [], .i .i64 0, .s []] [], .i .i64 0, .s [], .i .i64 0, .s [], .s [], .i .i64 0, .s []] []] (b.map (GRule.cells false false))])] [] (.one (false, [.b (decide (a = b))])) := by
 refine spec_of2 false false none Tryz.func70 b1J (rvs := [.t 4]) (hΓ := mkCtx_ok (deep := false) (l := [(51, [], a2Z)]) ⟨a9U, trivial⟩) (h := ?_)
 intro hb hE
 simp only [go_sem] at hb
 simp only [a4U, x']
 (try refine A2V ?_); simp only [go_sem]; (repeat' first | apply CJ.mk | intro hc); all_goals try ((repeat' first | apply And.intro | intro hs) <;> (try simp only [go_sem, Bool.and_eq_false_iff] at hs) <;> omega)
 ·symm
  rw [decide_eq_false_iff_not]
  rintro rfl
  simp at hc
 have hl : a.length = b.length := by simpa [Int.ofNat_inj] using hc
 refine aw_loop2 false [] [0, 1] [] [] (fun i : {i : Nat // i ≤ a.length ∧ a.take i = b.take i} => [(5, slV (.i .i64 i.1))]) (fun i => []) (fun i => []) (fun i => a.length - i.1) (⟨0, by simp⟩) _ rfl ?_ ?_
 ·simp only [go_sem]
  all_goals first | omega | ((repeat' apply And.intro) <;> first | omega | rfl | skip)
 intro S0 hS0 i
 simp only [go_sem] at hS0
 obtain ⟨i, hi, ht⟩ := i
 (try refine A2V ?_); simp only [go_sem, hS0]; (repeat' first | apply CJ.mk | intro hc); all_goals try ((repeat' first | apply And.intro | intro hs) <;> (try simp only [go_sem, Bool.and_eq_false_iff] at hs) <;> omega)
 ·exact (decide_eq_false (a2m default (i := i) (by simpa using hc))).symm
 ·(refine lpK_n2 (⟨i + 1, by omega, z7 ht (by omega) (by omega) (d := default) (by simpa using hc)⟩) _ rfl ?_; simp only [go_sem, hS0]; first | done | ((repeat' apply And.intro) <;> first | omega | (refine w64 ?_ ?_ ?_ <;> omega) | rfl | skip))
 ·exact (decide_eq_true (o5 hl ht (by omega))).symm
 all_goals trace_state
noncomputable def a1W : CT := c8 (fun (x : (List GRule) × (List GRule)) => b3V x.1 x.2)
@[go_sem] theorem c0E (a : List GRule) (b : List GRule) : a1W [(false, [.sl false [.i .i64 0, .s [], .sl false [.s [], .i .i64 0, .s []] [], .sl false [.i .i64 0, .s [], .sl false [.s [], .i .i64 0, .s []] [], .i .i64 0, .s [], .i .i64 0, .s [], .s [], .i .i64 0, .s []] []] (a.map (GRule.cells false false))]), (false, [.sl false [.i .i64 0, .s [], .sl false [.s [], .i .i64 0, .s []] [], .sl false [.i .i64 0, .s [], .sl false [.s [], .i .i64 0, .s []] [], .i .i64 0, .s [], .i .i64 0, .s [], .s [], .i .i64 0, .s []] []] (b.map (GRule.cells false false))])] = some (True, [], .one (false, [.b (decide (a = b))])) := c4 _ (by rintro ⟨_, _⟩ ⟨_, _⟩ h; simp at h; simp_all) (a, b)
theorem a8K : OkC Tryz.prog 70 a1W := c5 _
def a5J : ACode := q' ([o' 2 (.box 3 (.t 0)), o' 3 (.box 3 (.t 1)), b' 4 false]) (.seq (q' ([f' 5 0 2, l' 6 5, f' 7 0 3, l' 8 7, o' 9 (.bin .neq (.t 6) (.t 8))]) (.cond (.t 9) (q'
 ([b' 4 false]) .ret) .skip)) (.seq (q' ([f' 10 1 2, l' 11 10, f' 12 1 3, l' 13 12, o' 14 (.bin .neq (.t 11) (.t 13))]) (.cond (.t 14) (q' ([b' 4 false]) .ret)
 .skip)) (.seq (q' ([f' 15 2 2, l' 16 15, f' 17 2 3, l' 18 17, o' 19 (.bin .neq (.t 16) (.t 18))]) (.cond (.t 19) (q' ([b' 4 false]) .ret) .skip)) (q' ([b' 4
 true]) .ret))))
theorem b3m : cmp Tryz.prog Tryz.f144 = some a5J := by kernel_rfl
theorem b5j (a : GDecl) (b : GDecl) : A0l Tryz.prog 144 [(true, [.i .i64 a.Kind, .s a.Name, .i .i64 a.Arity]), (true, [.i .i64 b.Kind, .s b.Name, .i .i64 b.Arity])] [] (.one (false, [.b (decide (a = b))])) := by
 refine spec_of2 false false none Tryz.func144 b3m (rvs := [.t 4]) (hΓ := mkCtx_ok (deep := false) (l := []) trivial) (h := ?_)
 intro hb hE
 simp only [go_sem] at hb
 simp only [a5J, x']
 (try refine A2V ?_); simp only [go_sem]; (repeat' first | apply CJ.mk | intro hc); all_goals try ((repeat' first | apply And.intro | intro hs) <;> (try simp only [go_sem, Bool.and_eq_false_iff] at hs) <;> omega)
 all_goals (cases a; cases b; simp_all)
noncomputable def a2X : CT := c8 (fun (x : GDecl × GDecl) => b5j x.1 x.2)
@[go_sem] theorem c1U (a_Kind : Int) (a_Name : List UInt8) (a_Arity : Int) (b_Kind : Int) (b_Name : List UInt8) (b_Arity : Int) : a2X [(true, [.i .i64 a_Kind, .s a_Name, .i .i64 a_Arity]), (true, [.i .i64 b_Kind, .s b_Name, .i .i64 b_Arity])] = some (True, [], .one (false, [.b (decide ((GDecl.mk a_Kind a_Name a_Arity) = (GDecl.mk b_Kind b_Name b_Arity)))])) := c4 _ (by rintro ⟨⟨_, _, _⟩, ⟨_, _, _⟩⟩ ⟨⟨_, _, _⟩, ⟨_, _, _⟩⟩ h; simp at h; simp_all) ((GDecl.mk a_Kind a_Name a_Arity), (GDecl.mk b_Kind b_Name b_Arity))
theorem a9S : OkC Tryz.prog 144 a2X := c5 _
def a4S : ACode := q' ([b' 4 false]) (.seq (q' ([m' 6 0, n' 7 6, m' 8 1, n' 9 8, o' 10 (.bin .neq (.t 7) (.t 9))]) (.cond (.t 10) (q' ([b' 4 false]) .ret) .skip)) (.seq (q' ([z' 5
 0]) (.block 0 (.loop (.seq (q' ([m' 11 5, m' 12 0, n' 13 12, r' 14 11 13]) (.cond (.t 14) .skip (.exit 0))) (.seq (.block 1 (.seq (.reg true [m' 17 0, m' 18
 5, i' 19 3 17 18, e' 20 3 19, m' 21 1, m' 22 5, i' 23 3 21 22, e' 24 3 23, c' 25 144 [20, 24], o' 26 (.not (.t 25))]) (.cond (.t 26) (q' ([b' 4 false]) .ret)
 .skip))) (g' [m' 15 5, a' 16 15, m' 5 16])))))) (q' ([b' 4 true]) .ret)))
theorem b1H : cmp Tryz.prog Tryz.f69 = some a4S := by kernel_rfl
theorem b3T (a : List GDecl) (b : List GDecl) : A0l Tryz.prog 69 [(false, [.sl false [.i .i64 0, .s [], .i .i64 0] (a.map GDecl.cells)]), (false, [.sl false [.i .i64 0, .s [], .i .i64 0] (b.map GDecl.cells)])] [] (.one (false, [.b (decide (a = b))])) := by
 refine spec_of2 false false none Tryz.func69 b1H (rvs := [.t 4]) (hΓ := mkCtx_ok (deep := false) (l := [(144, [], a2X)]) ⟨a9S, trivial⟩) (h := ?_)
 intro hb hE
 simp only [go_sem] at hb
 simp only [a4S, x']
 (try refine A2V ?_); simp only [go_sem]; (repeat' first | apply CJ.mk | intro hc); all_goals try ((repeat' first | apply And.intro | intro hs) <;> (try simp only [go_sem, Bool.and_eq_false_iff] at hs) <;> omega)
 ·symm
  rw [decide_eq_false_iff_not]
  rintro rfl
  simp at hc
 have hl : a.length = b.length := by simpa [Int.ofNat_inj] using hc
 refine aw_loop2 false [] [0, 1] [] [] (fun i : {i : Nat // i ≤ a.length ∧ a.take i = b.take i} => [(5, slV (.i .i64 i.1))]) (fun i => []) (fun i => []) (fun i => a.length - i.1) (⟨0, by simp⟩) _ rfl ?_ ?_
 ·simp only [go_sem]
  all_goals first | omega | ((repeat' apply And.intro) <;> first | omega | rfl | skip)
 intro S0 hS0 i
 simp only [go_sem] at hS0
 obtain ⟨i, hi, ht⟩ := i
 (try refine A2V ?_); simp only [go_sem, hS0]; (repeat' first | apply CJ.mk | intro hc); all_goals try ((repeat' first | apply And.intro | intro hs) <;> (try simp only [go_sem, Bool.and_eq_false_iff] at hs) <;> omega)
 ·exact (decide_eq_false (a2m default (i := i) (by simpa using hc))).symm
 ·(refine lpK_n2 (⟨i + 1, by omega, z7 ht (by omega) (by omega) (d := default) (by simpa using hc)⟩) _ rfl ?_; simp only [go_sem, hS0]; first | done | ((repeat' apply And.intro) <;> first | omega | (refine w64 ?_ ?_ ?_ <;> omega) | rfl | skip))
 ·exact (decide_eq_true (o5 hl ht (by omega))).symm
 all_goals trace_state
noncomputable def a1U : CT := c8 (fun (x : (List GDecl) × (List GDecl)) => b3T x.1 x.2)
@[go_sem] theorem c0C (a : List GDecl) (b : List GDecl) : a1U [(false, [.sl false [.i .i64 0, .s [], .i .i64 0] (a.map GDecl.cells)]), (false, [.sl false [.i .i64 0, .s [], .i .i64 0] (b.map GDecl.cells)])] = some (True, [], .one (false, [.b (decide (a = b))])) := c4 _ (by rintro ⟨_, _⟩ ⟨_, _⟩ h; simp at h; simp_all) (a, b)
theorem a8I : OkC Tryz.prog 69 a1U := c5 _
def a2t : ACode := q' ([o' 2 (.box 2 (.t 0)), o' 3 (.box 2 (.t 1)), b' 4 false]) (.seq (q' ([f' 5 0 2, l' 6 5, f' 7 0 3, l' 8 7, c' 9 69 [6, 8], o' 10 (.not (.t 9))]) (.cond (.t
 10) (q' ([b' 4 false]) .ret) .skip)) (.seq (q' ([f' 11 1 2, l' 12 11, f' 13 1 3, l' 14 13, c' 15 70 [12, 14], o' 16 (.not (.t 15))]) (.cond (.t 16) (q' ([b' 4
 false]) .ret) .skip)) (q' ([b' 4 true]) .ret)))
theorem a9f : cmp Tryz.prog Tryz.f17 = some a2t := by kernel_rfl
theorem b0G (a : GProgram) (b : GProgram) : A0l Tryz.prog 17 [(true, [.sl false [.i .i64 0, .s [], .i .i64 0] (a.Decls.map GDecl.cells), .sl false [.i .i64 0, .s [], .sl false [.s [], .i .i64 0, .s []] [], .sl false [.i .i64 0, .s [], .sl false [.s [], .i .i64 0, .s []] [], .i .i64 0, .s [], .i .i64 0, .s [], .s [], .i .i64 0, .s []] []] (a.Rules.map (GRule.cells false false))]), (true, [.sl false [.i .i64 0, .s [], .i .i64 0] (b.Decls.map GDecl.cells), .sl false [.i .i64 0, .s [], .sl false [.s [], .i .i64 0, .s []] [], .sl false [.i .i64 0, .s [], .sl false [.s [], .i .i64 0, .s []] [], .i .i64 0, .s [], .i .i64 0, .s [], .s [], .i .i64 0, .s []] []] (b.Rules.map (GRule.cells false false))])] [] (.one (false, [.b (decide (a = b))])) := by
 refine spec_of2 false false none Tryz.func17 a9f (rvs := [.t 4]) (hΓ := mkCtx_ok (deep := false) (l := [(69, [], a1U), (70, [], a1W)]) ⟨a8I, a8K, trivial⟩) (h := ?_)
 intro hb hE
 simp only [go_sem] at hb
 simp only [a2t, x']
 (try refine A2V ?_); simp only [go_sem]; (repeat' first | apply CJ.mk | intro hc); all_goals try ((repeat' first | apply And.intro | intro hs) <;> (try simp only [go_sem, Bool.and_eq_false_iff] at hs) <;> omega)
 all_goals (cases a; cases b; simp_all)
noncomputable def a0g : CT := c8 (fun (x : GProgram × GProgram) => b0G x.1 x.2)
@[go_sem] theorem b8G (a_Decls : List GDecl) (a_Rules : List GRule) (b_Decls : List GDecl) (b_Rules : List GRule) : a0g [(true, [.sl false [.i .i64 0, .s [], .i .i64 0] (a_Decls.map GDecl.cells), .sl false [.i .i64 0, .s [], .sl false [.s [], .i .i64 0, .s []] [], .sl false [.i .i64 0, .s [], .sl false [.s [], .i .i64 0, .s []] [], .i .i64 0, .s [], .i .i64 0, .s [], .s [], .i .i64 0, .s []] []] (a_Rules.map (GRule.cells false false))]), (true, [.sl false [.i .i64 0, .s [], .i .i64 0] (b_Decls.map GDecl.cells), .sl false [.i .i64 0, .s [], .sl false [.s [], .i .i64 0, .s []] [], .sl false [.i .i64 0, .s [], .sl false [.s [], .i .i64 0, .s []] [], .i .i64 0, .s [], .i .i64 0, .s [], .s [], .i .i64 0, .s []] []] (b_Rules.map (GRule.cells false false))])] = some (True, [], .one (false, [.b (decide ((GProgram.mk a_Decls a_Rules) = (GProgram.mk b_Decls b_Rules)))])) := c4 _ (by rintro ⟨⟨_, _⟩, ⟨_, _⟩⟩ ⟨⟨_, _⟩, ⟨_, _⟩⟩ h; simp at h; simp_all) ((GProgram.mk a_Decls a_Rules), (GProgram.mk b_Decls b_Rules))
theorem a6R : OkC Tryz.prog 17 a0g := c5 _
end Go.Aw
