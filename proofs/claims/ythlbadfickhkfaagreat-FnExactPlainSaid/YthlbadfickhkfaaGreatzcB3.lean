/- Programs: sizes, copies, equalities. No condition. -/
import Derived.Test.YthlbadfickhkfaaGreatzcB2
namespace Go.Aw
open Go.Proofs
attribute [local irreducible] aft blk lpK retK AW A0l
set_option linter.unusedVariables false
set_option linter.unusedSimpArgs false
set_option maxRecDepth 100000
def a2L (x : GAtom) : Nat := x.Name.length + (x.Args.length + k9 o5 x.Args)
def p8 (x : GLit) : Nat := a2L x.Atom + o5 x.A + o5 x.B
def l8 (x : GRule) : Nat := a2L x.Head + (x.Body.length + k9 p8 x.Body)
def s4 (x : GDecl) : Nat := x.Name.length
def a0r (x : GProgram) : Nat := (x.Decls.length + k9 s4 x.Decls) + (x.Rules.length + k9 l8 x.Rules)
def a5o : ACode := q' ([o' 2 (.box 2 (.t 0)), z' 4 0]) (q' ([m' 5 1, f' 6 0 2, l' 7 6, o' 8 (.lens (.t 7)), o' 9 (.bin .sub (.t 5) (.t 8)), m' 1 9]) (.seq (q' ([m' 10 1, o' 11
 (.bin .lss (.t 10) (k' 0))]) (.cond (.t 11) (q' ([o' 4 (.mov (.k (.v false [.c (.i .i64 (-1))])))]) .ret) .skip)) (q' ([f' 12 1 2, l' 13 12, m' 14 1, c' 15
 178 [13, 14], m' 1 15]) (.seq (q' ([m' 16 1, o' 17 (.bin .lss (.t 16) (k' 0))]) (.cond (.t 17) (q' ([o' 4 (.mov (.k (.v false [.c (.i .i64 (-1))])))]) .ret)
 .skip)) (q' ([m' 18 1, m' 4 18]) .ret)))))
theorem b2H : cmp Tryz.prog Tryz.f110 = some a5o := by kernel_rfl
theorem b4p (a : GAtom) (left : Int) (hpre : 0 ≤ left ∧ left ≤ 1048576) : A0l Tryz.prog 110 [(true, [.s a.Name, .sl false [.s [], .i .i64 0, .s []] (a.Args.map GTerm.cells)]), (false, [.i .i64 left])] [] (.one (false, [.i .i64 (szR left (a2L a : Nat))])) := by
 refine spec_of2 false false none Tryz.func110 b2H (rvs := [.t 4]) (hΓ := mkCtx_ok (deep := false) (l := [(178, [], a1X)]) ⟨a8o, trivial⟩) (h := ?_)
 intro hb hE
 simp only [go_sem] at hb
 simp only [a5o, x']
 (try refine A2V ?_); simp only [go_sem]; (repeat' first | apply CJ.mk | intro hc); all_goals try ((repeat' first | apply And.intro | intro hs) <;> (try simp only [go_sem, Bool.and_eq_false_iff] at hs) <;> omega)
 all_goals ((repeat (simp (disch := omega) only [a0t] at *)) <;> (try simp only [szR, a2L] at *) <;> (first | omega | (split <;> omega)))
noncomputable def a0B : CT := o8 (fun (x : GAtom × Int) h => b4p x.1 x.2 h)
@[go_sem] theorem c0P (a_Name : List UInt8) (a_Args : List GTerm) (left : Int) : a0B [(true, [.s a_Name, .sl false [.s [], .i .i64 0, .s []] (a_Args.map GTerm.cells)]), (false, [.i .i64 left])] = some (0 ≤ left ∧ left ≤ 1048576, [], .one (false, [.i .i64 (szR left (a2L (GAtom.mk a_Name a_Args) : Nat))])) := d7 _ (by rintro ⟨⟨_, _⟩, _⟩ ⟨⟨_, _⟩, _⟩ h; simp at h; simp_all) ((GAtom.mk a_Name a_Args), left)
theorem a3C : OkC Tryz.prog 110 a0B := d8 _
def a6S : ACode := q' ([o' 2 (.box 10 (.t 0)), z' 4 0]) (q' ([f' 5 1 2, e' 6 2 5, m' 7 1, c' 8 110 [6, 7], m' 1 8]) (.seq (q' ([m' 9 1, o' 10 (.bin .lss (.t 9) (k' 0))]) (.cond
 (.t 10) (q' ([o' 4 (.mov (.k (.v false [.c (.i .i64 (-1))])))]) .ret) .skip)) (q' ([f' 11 4 2, e' 12 3 11, m' 13 1, c' 14 263 [12, 13], m' 1 14]) (.seq (q'
 ([m' 15 1, o' 16 (.bin .lss (.t 15) (k' 0))]) (.cond (.t 16) (q' ([o' 4 (.mov (.k (.v false [.c (.i .i64 (-1))])))]) .ret) .skip)) (q' ([f' 17 7 2, e' 18 3
 17, m' 19 1, c' 20 263 [18, 19], m' 1 20]) (.seq (q' ([m' 21 1, o' 22 (.bin .lss (.t 21) (k' 0))]) (.cond (.t 22) (q' ([o' 4 (.mov (.k (.v false [.c (.i .i64
 (-1))])))]) .ret) .skip)) (q' ([m' 23 1, m' 4 23]) .ret)))))))
theorem b3V : cmp Tryz.prog Tryz.f179 = some a6S := by kernel_rfl
theorem b5W (a : GLit) (left : Int) (hpre : 0 ≤ left ∧ left ≤ 1048576) : A0l Tryz.prog 179 [(true, [.i .i64 a.Kind, .s a.Atom.Name, .sl false [.s [], .i .i64 0, .s []] (a.Atom.Args.map GTerm.cells), .i .i64 a.Op, .s a.A.Var, .i .i64 a.A.Val.N, .s a.A.Val.S, .s a.B.Var, .i .i64 a.B.Val.N, .s a.B.Val.S]), (false, [.i .i64 left])] [] (.one (false, [.i .i64 (szR left (p8 a : Nat))])) := by
 refine spec_of2 false false none Tryz.func179 b3V (rvs := [.t 4]) (hΓ := mkCtx_ok (deep := false) (l := [(110, [], a0B), (263, [], a0C)]) ⟨a3C, a3D, trivial⟩) (h := ?_)
 intro hb hE
 simp only [go_sem] at hb
 simp only [a6S, x']
 (try refine A2V ?_); simp only [go_sem]; (repeat' first | apply CJ.mk | intro hc); all_goals try ((repeat' first | apply And.intro | intro hs) <;> (try simp only [go_sem, Bool.and_eq_false_iff] at hs) <;> omega)
 all_goals ((repeat (simp (disch := omega) only [a0t] at *)) <;> (try simp only [szR, p8] at *) <;> (first | omega | (split <;> omega)))
noncomputable def a4d : CT := o8 (fun (x : GLit × Int) h => b5W x.1 x.2 h)
@[go_sem] theorem c1Q (a_Kind : Int) (a_Atom_Name : List UInt8) (a_Atom_Args : List GTerm) (a_Op : Int) (a_A_Var : List UInt8) (a_A_Val_N : Int) (a_A_Val_S : List UInt8) (a_B_Var : List UInt8) (a_B_Val_N : Int) (a_B_Val_S : List UInt8) (left : Int) : a4d [(true, [.i .i64 a_Kind, .s a_Atom_Name, .sl false [.s [], .i .i64 0, .s []] (a_Atom_Args.map GTerm.cells), .i .i64 a_Op, .s a_A_Var, .i .i64 a_A_Val_N, .s a_A_Val_S, .s a_B_Var, .i .i64 a_B_Val_N, .s a_B_Val_S]), (false, [.i .i64 left])] = some (0 ≤ left ∧ left ≤ 1048576, [], .one (false, [.i .i64 (szR left (p8 (GLit.mk a_Kind (GAtom.mk a_Atom_Name a_Atom_Args) a_Op (GTerm.mk a_A_Var (GValue.mk a_A_Val_N a_A_Val_S)) (GTerm.mk a_B_Var (GValue.mk a_B_Val_N a_B_Val_S))) : Nat))])) := d7 _ (by rintro ⟨⟨_, ⟨_, _⟩, _, ⟨_, ⟨_, _⟩⟩, ⟨_, ⟨_, _⟩⟩⟩, _⟩ ⟨⟨_, ⟨_, _⟩, _, ⟨_, ⟨_, _⟩⟩, ⟨_, ⟨_, _⟩⟩⟩, _⟩ h; simp at h; simp_all) ((GLit.mk a_Kind (GAtom.mk a_Atom_Name a_Atom_Args) a_Op (GTerm.mk a_A_Var (GValue.mk a_A_Val_N a_A_Val_S)) (GTerm.mk a_B_Var (GValue.mk a_B_Val_N a_B_Val_S))), left)
theorem b0R : OkC Tryz.prog 179 a4d := d8 _
def a5q : ACode := q' ([z' 4 0]) (q' ([m' 6 1, m' 7 0, n' 8 7, o' 9 (.bin .sub (.t 6) (.t 8)), m' 1 9]) (.seq (q' ([m' 10 1, o' 11 (.bin .lss (.t 10) (k' 0))]) (.cond (.t 11) (q'
 ([o' 4 (.mov (.k (.v false [.c (.i .i64 (-1))])))]) .ret) .skip)) (.seq (q' ([z' 5 0]) (.block 0 (.loop (.seq (q' ([m' 12 5, m' 13 0, n' 14 13, r' 15 12 14])
 (.cond (.t 15) .skip (.exit 0))) (.seq (.block 1 (q' ([m' 18 0, m' 19 5, i' 20 10 18 19, e' 21 10 20, m' 22 1, c' 23 179 [21, 22], m' 1 23]) (q' ([m' 24 1, o'
 25 (.bin .lss (.t 24) (k' 0))]) (.cond (.t 25) (q' ([o' 4 (.mov (.k (.v false [.c (.i .i64 (-1))])))]) .ret) .skip)))) (g' [m' 16 5, a' 17 16, m' 5 17]))))))
 (q' ([m' 26 1, m' 4 26]) .ret))))
theorem b2J : cmp Tryz.prog Tryz.f111 = some a5q := by kernel_rfl
theorem b4r (a : List GLit) (left : Int) (hpre : 0 ≤ left ∧ left ≤ 1048576) : A0l Tryz.prog 111 [(false, [.sl false [.i .i64 0, .s [], .sl false [.s [], .i .i64 0, .s []] [], .i .i64 0, .s [], .i .i64 0, .s [], .s [], .i .i64 0, .s []] (a.map (GLit.cells false false))]), (false, [.i .i64 left])] [] (.one (false, [.i .i64 (szR left ((a.length + k9 p8 a) : Nat))])) := by
 refine spec_of2 false false none Tryz.func111 b2J (rvs := [.t 4]) (hΓ := mkCtx_ok (deep := false) (l := [(179, [], a4d)]) ⟨b0R, trivial⟩) (h := ?_)
 intro hb hE
 simp only [go_sem] at hb
 simp only [a5q, x']
 (try refine A2V ?_); simp only [go_sem]; (repeat' first | apply CJ.mk | intro hc); all_goals try ((repeat' first | apply And.intro | intro hs) <;> (try simp only [go_sem, Bool.and_eq_false_iff] at hs) <;> omega)
 ·all_goals ((repeat (simp (disch := omega) only [a0t] at *)) <;> (try simp only [szR, szR] at *) <;> (first | omega | (split <;> omega)))
 have hw := a0t (l := left) (n := a.length) (by omega) (by omega) (by omega) (by omega)
 rw [hw] at hc
 refine aw_loop2 false [] [0] [] [] (fun i : {i : Nat // i ≤ a.length ∧ (a.length : Int) + (k9 p8 (a.take i) : Nat) ≤ left} => [(5, slV (.i .i64 i.1)), (1, slV (.i .i64 (left - a.length - (k9 p8 (a.take i.1) : Nat))))]) (fun i => []) (fun i => []) (fun i => a.length - i.1) (⟨0, by simp only [List.take_zero, a6k]; omega⟩) _ rfl ?_ ?_
 ·simp only [go_sem, hw]
  all_goals first | omega | ((repeat' apply And.intro) <;> first | omega | rfl | skip)
 intro S0 hS0 i
 simp only [go_sem, hw] at hS0
 obtain ⟨i, hi, ht⟩ := i
 (try refine A2V ?_); simp only [go_sem, hw, hS0]; (repeat' first | apply CJ.mk | intro hc); all_goals try ((repeat' first | apply And.intro | intro hs) <;> (try simp only [go_sem, Bool.and_eq_false_iff] at hs) <;> omega)
 ·have h1 := j6 p8 (default : GLit) (show i < a.length by omega)
  have h2 := y9 p8 a (i + 1)
  all_goals ((repeat (simp (disch := omega) only [a0t] at *)) <;> (try simp only [szR, szR] at *) <;> (first | omega | (split <;> omega)))
 ·have h1 := j6 p8 (default : GLit) (show i < a.length by omega)
  (refine lpK_n2 (⟨i + 1, by omega, by unfold szR at hc; split at hc <;> omega⟩) _ rfl ?_; simp only [go_sem, hw, hS0]; first | done | ((repeat' apply And.intro) <;> first | omega | (refine w64 ?_ ?_ ?_ <;> omega) | rfl | skip))
  rw [h1]
  unfold szR at hc ⊢
  split at hc <;> omega
 ·have h1 := a9k p8 (show ¬ i < a.length by omega)
  all_goals ((repeat (simp (disch := omega) only [a0t] at *)) <;> (try simp only [szR, szR] at *) <;> (first | omega | (split <;> omega)))
 all_goals all_goals ((repeat (simp (disch := omega) only [a0t] at *)) <;> (try simp only [szR, szR] at *) <;> (first | omega | (split <;> omega)))
noncomputable def a2U : CT := o8 (fun (x : (List GLit) × Int) h => b4r x.1 x.2 h)
@[go_sem] theorem c0R (a : List GLit) (left : Int) : a2U [(false, [.sl false [.i .i64 0, .s [], .sl false [.s [], .i .i64 0, .s []] [], .i .i64 0, .s [], .i .i64 0, .s [], .s [], .i .i64 0, .s []] (a.map (GLit.cells false false))]), (false, [.i .i64 left])] = some (0 ≤ left ∧ left ≤ 1048576, [], .one (false, [.i .i64 (szR left ((a.length + k9 p8 a) : Nat))])) := d7 _ (by rintro ⟨_, _⟩ ⟨_, _⟩ h; simp at h; simp_all) (a, left)
theorem a9y : OkC Tryz.prog 111 a2U := d8 _
def a5r : ACode := q' ([o' 2 (.box 4 (.t 0)), z' 4 0]) (q' ([f' 5 1 2, e' 6 2 5, m' 7 1, c' 8 110 [6, 7], m' 1 8]) (.seq (q' ([m' 9 1, o' 10 (.bin .lss (.t 9) (k' 0))]) (.cond (.t
 10) (q' ([o' 4 (.mov (.k (.v false [.c (.i .i64 (-1))])))]) .ret) .skip)) (q' ([f' 11 3 2, l' 12 11, m' 13 1, c' 14 111 [12, 13], m' 1 14]) (.seq (q' ([m' 15
 1, o' 16 (.bin .lss (.t 15) (k' 0))]) (.cond (.t 16) (q' ([o' 4 (.mov (.k (.v false [.c (.i .i64 (-1))])))]) .ret) .skip)) (q' ([m' 17 1, m' 4 17]) .ret)))))
theorem b2K : cmp Tryz.prog Tryz.f46 = some a5r := by kernel_rfl
theorem b4s (a : GRule) (left : Int) (hpre : 0 ≤ left ∧ left ≤ 1048576) : A0l Tryz.prog 46 [(true, [.i .i64 a.Kind, .s a.Head.Name, .sl false [.s [], .i .i64 0, .s []] (a.Head.Args.map GTerm.cells), .sl false [.i .i64 0, .s [], .sl false [.s [], .i .i64 0, .s []] [], .i .i64 0, .s [], .i .i64 0, .s [], .s [], .i .i64 0, .s []] (a.Body.map (GLit.cells false false))]), (false, [.i .i64 left])] [] (.one (false, [.i .i64 (szR left (l8 a : Nat))])) := by
 refine spec_of2 false false none Tryz.func46 b2K (rvs := [.t 4]) (hΓ := mkCtx_ok (deep := false) (l := [(110, [], a0B), (111, [], a2U)]) ⟨a3C, a9y, trivial⟩) (h := ?_)
 intro hb hE
 simp only [go_sem] at hb
 simp only [a5r, x']
 (try refine A2V ?_); simp only [go_sem]; (repeat' first | apply CJ.mk | intro hc); all_goals try ((repeat' first | apply And.intro | intro hs) <;> (try simp only [go_sem, Bool.and_eq_false_iff] at hs) <;> omega)
 all_goals ((repeat (simp (disch := omega) only [a0t] at *)) <;> (try simp only [szR, l8] at *) <;> (first | omega | (split <;> omega)))
noncomputable def a2V : CT := o8 (fun (x : GRule × Int) h => b4s x.1 x.2 h)
@[go_sem] theorem c0S (a_Kind : Int) (a_Head_Name : List UInt8) (a_Head_Args : List GTerm) (a_Body : List GLit) (left : Int) : a2V [(true, [.i .i64 a_Kind, .s a_Head_Name, .sl false [.s [], .i .i64 0, .s []] (a_Head_Args.map GTerm.cells), .sl false [.i .i64 0, .s [], .sl false [.s [], .i .i64 0, .s []] [], .i .i64 0, .s [], .i .i64 0, .s [], .s [], .i .i64 0, .s []] (a_Body.map (GLit.cells false false))]), (false, [.i .i64 left])] = some (0 ≤ left ∧ left ≤ 1048576, [], .one (false, [.i .i64 (szR left (l8 (GRule.mk a_Kind (GAtom.mk a_Head_Name a_Head_Args) a_Body) : Nat))])) := d7 _ (by rintro ⟨⟨_, ⟨_, _⟩, _⟩, _⟩ ⟨⟨_, ⟨_, _⟩, _⟩, _⟩ h; simp at h; simp_all) ((GRule.mk a_Kind (GAtom.mk a_Head_Name a_Head_Args) a_Body), left)
theorem a9z : OkC Tryz.prog 46 a2V := d8 _
def a4E : ACode := q' ([z' 4 0]) (q' ([m' 6 1, m' 7 0, n' 8 7, o' 9 (.bin .sub (.t 6) (.t 8)), m' 1 9]) (.seq (q' ([m' 10 1, o' 11 (.bin .lss (.t 10) (k' 0))]) (.cond (.t 11) (q'
 ([o' 4 (.mov (.k (.v false [.c (.i .i64 (-1))])))]) .ret) .skip)) (.seq (q' ([z' 5 0]) (.block 0 (.loop (.seq (q' ([m' 12 5, m' 13 0, n' 14 13, r' 15 12 14])
 (.cond (.t 15) .skip (.exit 0))) (.seq (.block 1 (q' ([m' 18 0, m' 19 5, i' 20 4 18 19, e' 21 4 20, m' 22 1, c' 23 46 [21, 22], m' 1 23]) (q' ([m' 24 1, o' 25
 (.bin .lss (.t 24) (k' 0))]) (.cond (.t 25) (q' ([o' 4 (.mov (.k (.v false [.c (.i .i64 (-1))])))]) .ret) .skip)))) (g' [m' 16 5, a' 17 16, m' 5 17])))))) (q'
 ([m' 26 1, m' 4 26]) .ret))))
theorem b1k : cmp Tryz.prog Tryz.f61 = some a4E := by kernel_rfl
theorem b3o (a : List GRule) (left : Int) (hpre : 0 ≤ left ∧ left ≤ 1048576) : A0l Tryz.prog 61 [(false, [.sl false [.i .i64 0, .s [], .sl false [.s [], .i .i64 0, .s []] [], .sl false [.i .i64 0, .s [], .sl false [.s [], .i .i64 0, .s []] [], .i .i64 0, .s [], .i .i64 0, .s [], .s [], .i .i64 0, .s []] []] (a.map (GRule.cells false false))]), (false, [.i .i64 left])] [] (.one (false, [.i .i64 (szR left ((a.length + k9 l8 a) : Nat))])) := by
 refine spec_of2 false false none Tryz.func61 b1k (rvs := [.t 4]) (hΓ := mkCtx_ok (deep := false) (l := [(46, [], a2V)]) ⟨a9z, trivial⟩) (h := ?_)
 intro hb hE
 simp only [go_sem] at hb
 simp only [a4E, x']
 (try refine A2V ?_); simp only [go_sem]; (repeat' first | apply CJ.mk | intro hc); all_goals try ((repeat' first | apply And.intro | intro hs) <;> (try simp only [go_sem, Bool.and_eq_false_iff] at hs) <;> omega)
 ·all_goals ((repeat (simp (disch := omega) only [a0t] at *)) <;> (try simp only [szR, szR] at *) <;> (first | omega | (split <;> omega)))
 have hw := a0t (l := left) (n := a.length) (by omega) (by omega) (by omega) (by omega)
 rw [hw] at hc
 refine aw_loop2 false [] [0] [] [] (fun i : {i : Nat // i ≤ a.length ∧ (a.length : Int) + (k9 l8 (a.take i) : Nat) ≤ left} => [(5, slV (.i .i64 i.1)), (1, slV (.i .i64 (left - a.length - (k9 l8 (a.take i.1) : Nat))))]) (fun i => []) (fun i => []) (fun i => a.length - i.1) (⟨0, by simp only [List.take_zero, a6k]; omega⟩) _ rfl ?_ ?_
 ·simp only [go_sem, hw]
  all_goals first | omega | ((repeat' apply And.intro) <;> first | omega | rfl | skip)
 intro S0 hS0 i
 simp only [go_sem, hw] at hS0
 obtain ⟨i, hi, ht⟩ := i
 (try refine A2V ?_); simp only [go_sem, hw, hS0]; (repeat' first | apply CJ.mk | intro hc); all_goals try ((repeat' first | apply And.intro | intro hs) <;> (try simp only [go_sem, Bool.and_eq_false_iff] at hs) <;> omega)
 ·have h1 := j6 l8 (default : GRule) (show i < a.length by omega)
  have h2 := y9 l8 a (i + 1)
  all_goals ((repeat (simp (disch := omega) only [a0t] at *)) <;> (try simp only [szR, szR] at *) <;> (first | omega | (split <;> omega)))
 ·have h1 := j6 l8 (default : GRule) (show i < a.length by omega)
  (refine lpK_n2 (⟨i + 1, by omega, by unfold szR at hc; split at hc <;> omega⟩) _ rfl ?_; simp only [go_sem, hw, hS0]; first | done | ((repeat' apply And.intro) <;> first | omega | (refine w64 ?_ ?_ ?_ <;> omega) | rfl | skip))
  rw [h1]
  unfold szR at hc ⊢
  split at hc <;> omega
 ·have h1 := a9k l8 (show ¬ i < a.length by omega)
  all_goals ((repeat (simp (disch := omega) only [a0t] at *)) <;> (try simp only [szR, szR] at *) <;> (first | omega | (split <;> omega)))
 all_goals all_goals ((repeat (simp (disch := omega) only [a0t] at *)) <;> (try simp only [szR, szR] at *) <;> (first | omega | (split <;> omega)))
noncomputable def a1W : CT := o8 (fun (x : (List GRule) × Int) h => b3o x.1 x.2 h)
@[go_sem] theorem b9G (a : List GRule) (left : Int) : a1W [(false, [.sl false [.i .i64 0, .s [], .sl false [.s [], .i .i64 0, .s []] [], .sl false [.i .i64 0, .s [], .sl false [.s [], .i .i64 0, .s []] [], .i .i64 0, .s [], .i .i64 0, .s [], .s [], .i .i64 0, .s []] []] (a.map (GRule.cells false false))]), (false, [.i .i64 left])] = some (0 ≤ left ∧ left ≤ 1048576, [], .one (false, [.i .i64 (szR left ((a.length + k9 l8 a) : Nat))])) := d7 _ (by rintro ⟨_, _⟩ ⟨_, _⟩ h; simp at h; simp_all) (a, left)
theorem a8n : OkC Tryz.prog 61 a1W := d8 _
def a5p : ACode := q' ([o' 2 (.box 3 (.t 0)), z' 4 0]) (q' ([m' 5 1, f' 6 1 2, l' 7 6, o' 8 (.lens (.t 7)), o' 9 (.bin .sub (.t 5) (.t 8)), m' 1 9]) (.seq (q' ([m' 10 1, o' 11
 (.bin .lss (.t 10) (k' 0))]) (.cond (.t 11) (q' ([o' 4 (.mov (.k (.v false [.c (.i .i64 (-1))])))]) .ret) .skip)) (q' ([m' 12 1, m' 4 12]) .ret)))
theorem b2I : cmp Tryz.prog Tryz.f133 = some a5p := by kernel_rfl
theorem b4q (a : GDecl) (left : Int) (hpre : 0 ≤ left ∧ left ≤ 1048576) : A0l Tryz.prog 133 [(true, [.i .i64 a.Kind, .s a.Name, .i .i64 a.Arity]), (false, [.i .i64 left])] [] (.one (false, [.i .i64 (szR left (s4 a : Nat))])) := by
 refine spec_of2 false false none Tryz.func133 b2I (rvs := [.t 4]) (hΓ := mkCtx_ok (deep := false) (l := []) trivial) (h := ?_)
 intro hb hE
 simp only [go_sem] at hb
 simp only [a5p, x']
 (try refine A2V ?_); simp only [go_sem]; (repeat' first | apply CJ.mk | intro hc); all_goals try ((repeat' first | apply And.intro | intro hs) <;> (try simp only [go_sem, Bool.and_eq_false_iff] at hs) <;> omega)
 all_goals ((repeat (simp (disch := omega) only [a0t] at *)) <;> (try simp only [szR, s4] at *) <;> (first | omega | (split <;> omega)))
noncomputable def a2T : CT := o8 (fun (x : GDecl × Int) h => b4q x.1 x.2 h)
@[go_sem] theorem c0Q (a_Kind : Int) (a_Name : List UInt8) (a_Arity : Int) (left : Int) : a2T [(true, [.i .i64 a_Kind, .s a_Name, .i .i64 a_Arity]), (false, [.i .i64 left])] = some (0 ≤ left ∧ left ≤ 1048576, [], .one (false, [.i .i64 (szR left (s4 (GDecl.mk a_Kind a_Name a_Arity) : Nat))])) := d7 _ (by rintro ⟨⟨_, _, _⟩, _⟩ ⟨⟨_, _, _⟩, _⟩ h; simp at h; simp_all) ((GDecl.mk a_Kind a_Name a_Arity), left)
theorem a9x : OkC Tryz.prog 133 a2T := d8 _
def a4D : ACode := q' ([z' 4 0]) (q' ([m' 6 1, m' 7 0, n' 8 7, o' 9 (.bin .sub (.t 6) (.t 8)), m' 1 9]) (.seq (q' ([m' 10 1, o' 11 (.bin .lss (.t 10) (k' 0))]) (.cond (.t 11) (q'
 ([o' 4 (.mov (.k (.v false [.c (.i .i64 (-1))])))]) .ret) .skip)) (.seq (q' ([z' 5 0]) (.block 0 (.loop (.seq (q' ([m' 12 5, m' 13 0, n' 14 13, r' 15 12 14])
 (.cond (.t 15) .skip (.exit 0))) (.seq (.block 1 (q' ([m' 18 0, m' 19 5, i' 20 3 18 19, e' 21 3 20, m' 22 1, c' 23 133 [21, 22], m' 1 23]) (q' ([m' 24 1, o'
 25 (.bin .lss (.t 24) (k' 0))]) (.cond (.t 25) (q' ([o' 4 (.mov (.k (.v false [.c (.i .i64 (-1))])))]) .ret) .skip)))) (g' [m' 16 5, a' 17 16, m' 5 17]))))))
 (q' ([m' 26 1, m' 4 26]) .ret))))
theorem b1j : cmp Tryz.prog Tryz.f60 = some a4D := by kernel_rfl
theorem b3n (a : List GDecl) (left : Int) (hpre : 0 ≤ left ∧ left ≤ 1048576) : A0l Tryz.prog 60 [(false, [.sl false [.i .i64 0, .s [], .i .i64 0] (a.map GDecl.cells)]), (false, [.i .i64 left])] [] (.one (false, [.i .i64 (szR left ((a.length + k9 s4 a) : Nat))])) := by
 refine spec_of2 false false none Tryz.func60 b1j (rvs := [.t 4]) (hΓ := mkCtx_ok (deep := false) (l := [(133, [], a2T)]) ⟨a9x, trivial⟩) (h := ?_)
 intro hb hE
 simp only [go_sem] at hb
 simp only [a4D, x']
 (try refine A2V ?_); simp only [go_sem]; (repeat' first | apply CJ.mk | intro hc); all_goals try ((repeat' first | apply And.intro | intro hs) <;> (try simp only [go_sem, Bool.and_eq_false_iff] at hs) <;> omega)
 ·all_goals ((repeat (simp (disch := omega) only [a0t] at *)) <;> (try simp only [szR, szR] at *) <;> (first | omega | (split <;> omega)))
 have hw := a0t (l := left) (n := a.length) (by omega) (by omega) (by omega) (by omega)
 rw [hw] at hc
 refine aw_loop2 false [] [0] [] [] (fun i : {i : Nat // i ≤ a.length ∧ (a.length : Int) + (k9 s4 (a.take i) : Nat) ≤ left} => [(5, slV (.i .i64 i.1)), (1, slV (.i .i64 (left - a.length - (k9 s4 (a.take i.1) : Nat))))]) (fun i => []) (fun i => []) (fun i => a.length - i.1) (⟨0, by simp only [List.take_zero, a6k]; omega⟩) _ rfl ?_ ?_
 ·simp only [go_sem, hw]
  all_goals first | omega | ((repeat' apply And.intro) <;> first | omega | rfl | skip)
 intro S0 hS0 i
 simp only [go_sem, hw] at hS0
 obtain ⟨i, hi, ht⟩ := i
 (try refine A2V ?_); simp only [go_sem, hw, hS0]; (repeat' first | apply CJ.mk | intro hc); all_goals try ((repeat' first | apply And.intro | intro hs) <;> (try simp only [go_sem, Bool.and_eq_false_iff] at hs) <;> omega)
 ·have h1 := j6 s4 (default : GDecl) (show i < a.length by omega)
  have h2 := y9 s4 a (i + 1)
  all_goals ((repeat (simp (disch := omega) only [a0t] at *)) <;> (try simp only [szR, szR] at *) <;> (first | omega | (split <;> omega)))
 ·have h1 := j6 s4 (default : GDecl) (show i < a.length by omega)
  (refine lpK_n2 (⟨i + 1, by omega, by unfold szR at hc; split at hc <;> omega⟩) _ rfl ?_; simp only [go_sem, hw, hS0]; first | done | ((repeat' apply And.intro) <;> first | omega | (refine w64 ?_ ?_ ?_ <;> omega) | rfl | skip))
  rw [h1]
  unfold szR at hc ⊢
  split at hc <;> omega
 ·have h1 := a9k s4 (show ¬ i < a.length by omega)
  all_goals ((repeat (simp (disch := omega) only [a0t] at *)) <;> (try simp only [szR, szR] at *) <;> (first | omega | (split <;> omega)))
 all_goals all_goals ((repeat (simp (disch := omega) only [a0t] at *)) <;> (try simp only [szR, szR] at *) <;> (first | omega | (split <;> omega)))
noncomputable def a1V : CT := o8 (fun (x : (List GDecl) × Int) h => b3n x.1 x.2 h)
@[go_sem] theorem b9F (a : List GDecl) (left : Int) : a1V [(false, [.sl false [.i .i64 0, .s [], .i .i64 0] (a.map GDecl.cells)]), (false, [.i .i64 left])] = some (0 ≤ left ∧ left ≤ 1048576, [], .one (false, [.i .i64 (szR left ((a.length + k9 s4 a) : Nat))])) := d7 _ (by rintro ⟨_, _⟩ ⟨_, _⟩ h; simp at h; simp_all) (a, left)
theorem a8m : OkC Tryz.prog 60 a1V := d8 _
def a2r : ACode := q' ([o' 2 (.box 2 (.t 0)), z' 4 0]) (q' ([f' 5 0 2, l' 6 5, m' 7 1, c' 8 60 [6, 7], m' 1 8]) (.seq (q' ([m' 9 1, o' 10 (.bin .lss (.t 9) (k' 0))]) (.cond (.t
 10) (q' ([o' 4 (.mov (.k (.v false [.c (.i .i64 (-1))])))]) .ret) .skip)) (q' ([f' 11 1 2, l' 12 11, m' 13 1, c' 14 61 [12, 13], m' 1 14]) (.seq (q' ([m' 15
 1, o' 16 (.bin .lss (.t 15) (k' 0))]) (.cond (.t 16) (q' ([o' 4 (.mov (.k (.v false [.c (.i .i64 (-1))])))]) .ret) .skip)) (q' ([m' 17 1, m' 4 17]) .ret)))))
theorem a8F : cmp Tryz.prog Tryz.f12 = some a2r := by kernel_rfl
theorem b0g (a : GProgram) (left : Int) (hpre : 0 ≤ left ∧ left ≤ 1048576) : A0l Tryz.prog 12 [(true, [.sl false [.i .i64 0, .s [], .i .i64 0] (a.Decls.map GDecl.cells), .sl false [.i .i64 0, .s [], .sl false [.s [], .i .i64 0, .s []] [], .sl false [.i .i64 0, .s [], .sl false [.s [], .i .i64 0, .s []] [], .i .i64 0, .s [], .i .i64 0, .s [], .s [], .i .i64 0, .s []] []] (a.Rules.map (GRule.cells false false))]), (false, [.i .i64 left])] [] (.one (false, [.i .i64 (szR left (a0r a : Nat))])) := by
 refine spec_of2 false false none Tryz.func12 a8F (rvs := [.t 4]) (hΓ := mkCtx_ok (deep := false) (l := [(60, [], a1V), (61, [], a1W)]) ⟨a8m, a8n, trivial⟩) (h := ?_)
 intro hb hE
 simp only [go_sem] at hb
 simp only [a2r, x']
 (try refine A2V ?_); simp only [go_sem]; (repeat' first | apply CJ.mk | intro hc); all_goals try ((repeat' first | apply And.intro | intro hs) <;> (try simp only [go_sem, Bool.and_eq_false_iff] at hs) <;> omega)
 all_goals ((repeat (simp (disch := omega) only [a0t] at *)) <;> (try simp only [szR, a0r] at *) <;> (first | omega | (split <;> omega)))
noncomputable def a0g : CT := o8 (fun (x : GProgram × Int) h => b0g x.1 x.2 h)
@[go_sem] theorem b7O (a_Decls : List GDecl) (a_Rules : List GRule) (left : Int) : a0g [(true, [.sl false [.i .i64 0, .s [], .i .i64 0] (a_Decls.map GDecl.cells), .sl false [.i .i64 0, .s [], .sl false [.s [], .i .i64 0, .s []] [], .sl false [.i .i64 0, .s [], .sl false [.s [], .i .i64 0, .s []] [], .i .i64 0, .s [], .i .i64 0, .s [], .s [], .i .i64 0, .s []] []] (a_Rules.map (GRule.cells false false))]), (false, [.i .i64 left])] = some (0 ≤ left ∧ left ≤ 1048576, [], .one (false, [.i .i64 (szR left (a0r (GProgram.mk a_Decls a_Rules) : Nat))])) := d7 _ (by rintro ⟨⟨_, _⟩, _⟩ ⟨⟨_, _⟩, _⟩ h; simp at h; simp_all) ((GProgram.mk a_Decls a_Rules), left)
theorem a6x : OkC Tryz.prog 12 a0g := d8 _
def a5t : ACode := q' ([o' 1 (.box 2 (.t 0)), w' 2 [.s, .sl [.s [], .i .i64 0, .s []]]]) (q' ([w' 3 [.s, .sl [.s [], .i .i64 0, .s []]]]) (q' ([f' 4 0 1, l' 5 4, f' 6 0 3, s' 1 6
 5]) (q' ([f' 7 1 1, l' 8 7, c' 9 189 [8], f' 10 1 3, s' 1 10 9]) (q' ([e' 11 2 3, s' 2 2 11]) .ret))))
theorem b2M : cmp Tryz.prog Tryz.f115 = some a5t := by kernel_rfl
theorem b4u (a : GAtom) (hpre : (a2L a : Int) ≤ 1048576) : A0l Tryz.prog 115 [(true, [.s a.Name, .sl false [.s [], .i .i64 0, .s []] (a.Args.map GTerm.cells)])] [] (.one (true, [.s a.Name, .sl true [.s [], .i .i64 0, .s []] (a.Args.map GTerm.cells)])) := by
 refine spec_of2 true false none Tryz.func115 b2M (rvs := [.c 2 true 2]) (hΓ := mkCtx_ok (deep := true) (l := [(189, [], a2b)]) ⟨a8s, trivial⟩) (h := ?_)
 intro hb hE
 simp only [go_sem] at hb
 simp only [a5t, x']
 (try refine A2V ?_); simp only [go_sem]; (repeat' first | apply CJ.mk | intro hc); all_goals try ((repeat' first | apply And.intro | intro hs) <;> (try simp only [go_sem, Bool.and_eq_false_iff] at hs) <;> omega)
 all_goals (simp only [a2L] at *; omega)
noncomputable def a0D : CT := o8 (fun (x : GAtom) h => b4u x h)
@[go_sem] theorem c0U (a_Name : List UInt8) (a_Args : List GTerm) : a0D [(true, [.s a_Name, .sl false [.s [], .i .i64 0, .s []] (a_Args.map GTerm.cells)])] = some ((a2L (GAtom.mk a_Name a_Args) : Int) ≤ 1048576, [], .one (true, [.s ((GAtom.mk a_Name a_Args).Name), .sl true [.s [], .i .i64 0, .s []] (((GAtom.mk a_Name a_Args).Args).map GTerm.cells)])) := d7 _ (by rintro ⟨_, _⟩ ⟨_, _⟩ h; simp at h; simp_all) (GAtom.mk a_Name a_Args)
theorem a3E : OkC Tryz.prog 115 a0D := d8 _
def a6T : ACode := q' ([o' 1 (.box 10 (.t 0)), w' 2 [.i .i64, .s, .sl [.s [], .i .i64 0, .s []], .i .i64, .s, .i .i64, .s, .s, .i .i64, .s]]) (q' ([w' 3 [.i .i64, .s, .sl [.s [],
 .i .i64 0, .s []], .i .i64, .s, .i .i64, .s, .s, .i .i64, .s]]) (q' ([f' 4 0 1, l' 5 4, f' 6 0 3, s' 1 6 5]) (q' ([f' 7 1 1, e' 8 2 7, c' 9 115 [8], f' 10 1
 3, s' 2 10 9]) (q' ([f' 11 3 1, l' 12 11, f' 13 3 3, s' 1 13 12]) (q' ([f' 14 4 1, e' 15 3 14, c' 16 272 [15], f' 17 4 3, s' 3 17 16]) (q' ([f' 18 7 1, e' 19
 3 18, c' 20 272 [19], f' 21 7 3, s' 3 21 20]) (q' ([e' 22 10 3, s' 10 2 22]) .ret)))))))
theorem b3W : cmp Tryz.prog Tryz.f190 = some a6T := by kernel_rfl
theorem b5X (a : GLit) (hpre : (p8 a : Int) ≤ 1048576) : A0l Tryz.prog 190 [(true, [.i .i64 a.Kind, .s a.Atom.Name, .sl false [.s [], .i .i64 0, .s []] (a.Atom.Args.map GTerm.cells), .i .i64 a.Op, .s a.A.Var, .i .i64 a.A.Val.N, .s a.A.Val.S, .s a.B.Var, .i .i64 a.B.Val.N, .s a.B.Val.S])] [] (.one (true, [.i .i64 a.Kind, .s a.Atom.Name, .sl true [.s [], .i .i64 0, .s []] (a.Atom.Args.map GTerm.cells), .i .i64 a.Op, .s a.A.Var, .i .i64 a.A.Val.N, .s a.A.Val.S, .s a.B.Var, .i .i64 a.B.Val.N, .s a.B.Val.S])) := by
 refine spec_of2 true false none Tryz.func190 b3W (rvs := [.c 2 true 10]) (hΓ := mkCtx_ok (deep := true) (l := [(115, [], a0D), (272, [], a0E)]) ⟨a3E, a3F, trivial⟩) (h := ?_)
 intro hb hE
 simp only [go_sem] at hb
 simp only [a6T, x']
 (try refine A2V ?_); simp only [go_sem]; (repeat' first | apply CJ.mk | intro hc); all_goals try ((repeat' first | apply And.intro | intro hs) <;> (try simp only [go_sem, Bool.and_eq_false_iff] at hs) <;> omega)
 all_goals (simp only [p8] at *; omega)
noncomputable def a4e : CT := o8 (fun (x : GLit) h => b5X x h)
@[go_sem] theorem c1R (a_Kind : Int) (a_Atom_Name : List UInt8) (a_Atom_Args : List GTerm) (a_Op : Int) (a_A_Var : List UInt8) (a_A_Val_N : Int) (a_A_Val_S : List UInt8) (a_B_Var : List UInt8) (a_B_Val_N : Int) (a_B_Val_S : List UInt8) : a4e [(true, [.i .i64 a_Kind, .s a_Atom_Name, .sl false [.s [], .i .i64 0, .s []] (a_Atom_Args.map GTerm.cells), .i .i64 a_Op, .s a_A_Var, .i .i64 a_A_Val_N, .s a_A_Val_S, .s a_B_Var, .i .i64 a_B_Val_N, .s a_B_Val_S])] = some ((p8 (GLit.mk a_Kind (GAtom.mk a_Atom_Name a_Atom_Args) a_Op (GTerm.mk a_A_Var (GValue.mk a_A_Val_N a_A_Val_S)) (GTerm.mk a_B_Var (GValue.mk a_B_Val_N a_B_Val_S))) : Int) ≤ 1048576, [], .one (true, [.i .i64 ((GLit.mk a_Kind (GAtom.mk a_Atom_Name a_Atom_Args) a_Op (GTerm.mk a_A_Var (GValue.mk a_A_Val_N a_A_Val_S)) (GTerm.mk a_B_Var (GValue.mk a_B_Val_N a_B_Val_S))).Kind), .s (((GLit.mk a_Kind (GAtom.mk a_Atom_Name a_Atom_Args) a_Op (GTerm.mk a_A_Var (GValue.mk a_A_Val_N a_A_Val_S)) (GTerm.mk a_B_Var (GValue.mk a_B_Val_N a_B_Val_S))).Atom).Name), .sl true [.s [], .i .i64 0, .s []] ((((GLit.mk a_Kind (GAtom.mk a_Atom_Name a_Atom_Args) a_Op (GTerm.mk a_A_Var (GValue.mk a_A_Val_N a_A_Val_S)) (GTerm.mk a_B_Var (GValue.mk a_B_Val_N a_B_Val_S))).Atom).Args).map GTerm.cells), .i .i64 ((GLit.mk a_Kind (GAtom.mk a_Atom_Name a_Atom_Args) a_Op (GTerm.mk a_A_Var (GValue.mk a_A_Val_N a_A_Val_S)) (GTerm.mk a_B_Var (GValue.mk a_B_Val_N a_B_Val_S))).Op), .s (((GLit.mk a_Kind (GAtom.mk a_Atom_Name a_Atom_Args) a_Op (GTerm.mk a_A_Var (GValue.mk a_A_Val_N a_A_Val_S)) (GTerm.mk a_B_Var (GValue.mk a_B_Val_N a_B_Val_S))).A).Var), .i .i64 ((((GLit.mk a_Kind (GAtom.mk a_Atom_Name a_Atom_Args) a_Op (GTerm.mk a_A_Var (GValue.mk a_A_Val_N a_A_Val_S)) (GTerm.mk a_B_Var (GValue.mk a_B_Val_N a_B_Val_S))).A).Val).N), .s ((((GLit.mk a_Kind (GAtom.mk a_Atom_Name a_Atom_Args) a_Op (GTerm.mk a_A_Var (GValue.mk a_A_Val_N a_A_Val_S)) (GTerm.mk a_B_Var (GValue.mk a_B_Val_N a_B_Val_S))).A).Val).S), .s (((GLit.mk a_Kind (GAtom.mk a_Atom_Name a_Atom_Args) a_Op (GTerm.mk a_A_Var (GValue.mk a_A_Val_N a_A_Val_S)) (GTerm.mk a_B_Var (GValue.mk a_B_Val_N a_B_Val_S))).B).Var), .i .i64 ((((GLit.mk a_Kind (GAtom.mk a_Atom_Name a_Atom_Args) a_Op (GTerm.mk a_A_Var (GValue.mk a_A_Val_N a_A_Val_S)) (GTerm.mk a_B_Var (GValue.mk a_B_Val_N a_B_Val_S))).B).Val).N), .s ((((GLit.mk a_Kind (GAtom.mk a_Atom_Name a_Atom_Args) a_Op (GTerm.mk a_A_Var (GValue.mk a_A_Val_N a_A_Val_S)) (GTerm.mk a_B_Var (GValue.mk a_B_Val_N a_B_Val_S))).B).Val).S)])) := d7 _ (by rintro ⟨_, ⟨_, _⟩, _, ⟨_, ⟨_, _⟩⟩, ⟨_, ⟨_, _⟩⟩⟩ ⟨_, ⟨_, _⟩, _, ⟨_, ⟨_, _⟩⟩, ⟨_, ⟨_, _⟩⟩⟩ h; simp at h; simp_all) (GLit.mk a_Kind (GAtom.mk a_Atom_Name a_Atom_Args) a_Op (GTerm.mk a_A_Var (GValue.mk a_A_Val_N a_A_Val_S)) (GTerm.mk a_B_Var (GValue.mk a_B_Val_N a_B_Val_S)))
theorem b0S : OkC Tryz.prog 190 a4e := d8 _
def a5v : ACode := q' ([o' 2 (.mov (.k (.v false [.nl [.i .i64 0, .s [], .sl false [.s [], .i .i64 0, .s []] [], .i .i64 0, .s [], .i .i64 0, .s [], .s [], .i .i64 0, .s []]])))])
 (q' ([m' 5 0, n' 6 5, o' 7 (.mks 10 136 [.i .i64, .s, .sl [.s [], .i .i64 0, .s []], .i .i64, .s, .i .i64, .s, .s, .i .i64, .s] (.t 6) (.t 6)), m' 3 7]) (.seq
 (q' ([z' 4 0]) (.block 0 (.loop (.seq (q' ([m' 8 4, m' 9 0, n' 10 9, r' 11 8 10]) (.cond (.t 11) .skip (.exit 0))) (.seq (.block 1 (g' [m' 14 3, m' 15 4, m'
 16 0, m' 17 4, i' 18 10 16 17, e' 19 10 18, c' 20 190 [19], i' 21 10 14 15, s' 10 21 20])) (g' [m' 12 4, a' 13 12, m' 4 13])))))) (q' ([m' 22 3, m' 2 22])
 .ret)))
theorem b2O : cmp Tryz.prog Tryz.f116 = some a5v := by kernel_rfl
theorem b4w (a : List GLit) (hpre : (((a.length + k9 p8 a) : Nat) : Int) ≤ 1048576) : A0l Tryz.prog 116 [(false, [.sl false [.i .i64 0, .s [], .sl false [.s [], .i .i64 0, .s []] [], .i .i64 0, .s [], .i .i64 0, .s [], .s [], .i .i64 0, .s []] (a.map (GLit.cells false false))])] [] (.one (false, [.sl true [.i .i64 0, .s [], .sl true [.s [], .i .i64 0, .s []] [], .i .i64 0, .s [], .i .i64 0, .s [], .s [], .i .i64 0, .s []] (a.map (GLit.cells true true))])) := by
 refine spec_of2 true false none Tryz.func116 b2O (rvs := [.t 2]) (hΓ := mkCtx_ok (deep := true) (l := [(190, [], a4e)]) ⟨b0S, trivial⟩) (h := ?_)
 intro hb hE
 simp only [go_sem] at hb
 simp only [a5v, x']
 (try refine A2V ?_); simp only [go_sem, a4X]; (repeat' first | apply CJ.mk | intro hc); all_goals try ((repeat' first | apply And.intro | intro hs) <;> (try simp only [go_sem, Bool.and_eq_false_iff] at hs) <;> omega)
 refine aw_loop2 true [] [0, 3] [] [] (fun i : {p : Nat × (List GLit) // p.1 ≤ a.length ∧ p.2.length = a.length ∧ p.2.take p.1 = a.take p.1} => [(4, slV (.i .i64 i.1.1))]) (fun i => []) (fun i => [(896, [.i .i64 0, .s [], .sl true [.s [], .i .i64 0, .s []] [], .i .i64 0, .s [], .i .i64 0, .s [], .s [], .i .i64 0, .s []], i.1.2.map (GLit.cells true true))]) (fun i => a.length - i.1.1) (⟨(0, List.replicate a.length default), by simp⟩) _ rfl ?_ ?_
 ·simp only [go_sem, a4X]
  all_goals first | omega | ((repeat' apply And.intro) <;> first | omega | rfl | skip)
 intro S0 hS0 i
 simp only [go_sem, a4X] at hS0
 obtain ⟨⟨i, L⟩, hi, hl, ht⟩ := i
 simp only at hi hl ht
 have hg := b5h p8 a i default rfl
 (try refine A2V ?_); simp only [go_sem, a4X, hS0]; (repeat' first | apply CJ.mk | intro hc); all_goals try ((repeat' first | apply And.intro | intro hs) <;> (try simp only [go_sem, Bool.and_eq_false_iff] at hs) <;> omega)
 ·(refine lpK_n2 (⟨(i + 1, L.set i (a.getD i default)), by simp only; omega, by simp [hl], a0I hl ht (by omega)⟩) _ rfl ?_; simp only [go_sem, a4X, hS0]; first | done | ((repeat' apply And.intro) <;> first | omega | (refine w64 ?_ ?_ ?_ <;> omega) | rfl | skip))
 ·obtain rfl := s7 hl ht (by omega)
  rfl
 all_goals trace_state
noncomputable def a2X : CT := o8 (fun (x : (List GLit)) h => b4w x h)
@[go_sem] theorem c0W (a : List GLit) : a2X [(false, [.sl false [.i .i64 0, .s [], .sl false [.s [], .i .i64 0, .s []] [], .i .i64 0, .s [], .i .i64 0, .s [], .s [], .i .i64 0, .s []] (a.map (GLit.cells false false))])] = some ((((a.length + k9 p8 a) : Nat) : Int) ≤ 1048576, [], .one (false, [.sl true [.i .i64 0, .s [], .sl true [.s [], .i .i64 0, .s []] [], .i .i64 0, .s [], .i .i64 0, .s [], .s [], .i .i64 0, .s []] (a.map (GLit.cells true true))])) := d7 _ (by intro x y h; simp at h; simp_all) a
theorem a9B : OkC Tryz.prog 116 a2X := d8 _
def a5w : ACode := q' ([o' 1 (.box 4 (.t 0)), w' 2 [.i .i64, .s, .sl [.s [], .i .i64 0, .s []], .sl [.i .i64 0, .s [], .sl false [.s [], .i .i64 0, .s []] [], .i .i64 0, .s [], .i
 .i64 0, .s [], .s [], .i .i64 0, .s []]]]) (q' ([w' 3 [.i .i64, .s, .sl [.s [], .i .i64 0, .s []], .sl [.i .i64 0, .s [], .sl false [.s [], .i .i64 0, .s []]
 [], .i .i64 0, .s [], .i .i64 0, .s [], .s [], .i .i64 0, .s []]]]) (q' ([f' 4 0 1, l' 5 4, f' 6 0 3, s' 1 6 5]) (q' ([f' 7 1 1, e' 8 2 7, c' 9 115 [8], f' 10
 1 3, s' 2 10 9]) (q' ([f' 11 3 1, l' 12 11, c' 13 116 [12], f' 14 3 3, s' 1 14 13]) (q' ([e' 15 4 3, s' 4 2 15]) .ret)))))
theorem b2P : cmp Tryz.prog Tryz.f48 = some a5w := by kernel_rfl
theorem b4x (a : GRule) (hpre : (l8 a : Int) ≤ 1048576) : A0l Tryz.prog 48 [(true, [.i .i64 a.Kind, .s a.Head.Name, .sl false [.s [], .i .i64 0, .s []] (a.Head.Args.map GTerm.cells), .sl false [.i .i64 0, .s [], .sl false [.s [], .i .i64 0, .s []] [], .i .i64 0, .s [], .i .i64 0, .s [], .s [], .i .i64 0, .s []] (a.Body.map (GLit.cells false false))])] [] (.one (true, [.i .i64 a.Kind, .s a.Head.Name, .sl true [.s [], .i .i64 0, .s []] (a.Head.Args.map GTerm.cells), .sl true [.i .i64 0, .s [], .sl true [.s [], .i .i64 0, .s []] [], .i .i64 0, .s [], .i .i64 0, .s [], .s [], .i .i64 0, .s []] (a.Body.map (GLit.cells true true))])) := by
 refine spec_of2 true false none Tryz.func48 b2P (rvs := [.c 2 true 4]) (hΓ := mkCtx_ok (deep := true) (l := [(115, [], a0D), (116, [], a2X)]) ⟨a3E, a9B, trivial⟩) (h := ?_)
 intro hb hE
 simp only [go_sem] at hb
 simp only [a5w, x']
 (try refine A2V ?_); simp only [go_sem]; (repeat' first | apply CJ.mk | intro hc); all_goals try ((repeat' first | apply And.intro | intro hs) <;> (try simp only [go_sem, Bool.and_eq_false_iff] at hs) <;> omega)
 all_goals (simp only [l8] at *; omega)
noncomputable def a2Y : CT := o8 (fun (x : GRule) h => b4x x h)
@[go_sem] theorem c0X (a_Kind : Int) (a_Head_Name : List UInt8) (a_Head_Args : List GTerm) (a_Body : List GLit) : a2Y [(true, [.i .i64 a_Kind, .s a_Head_Name, .sl false [.s [], .i .i64 0, .s []] (a_Head_Args.map GTerm.cells), .sl false [.i .i64 0, .s [], .sl false [.s [], .i .i64 0, .s []] [], .i .i64 0, .s [], .i .i64 0, .s [], .s [], .i .i64 0, .s []] (a_Body.map (GLit.cells false false))])] = some ((l8 (GRule.mk a_Kind (GAtom.mk a_Head_Name a_Head_Args) a_Body) : Int) ≤ 1048576, [], .one (true, [.i .i64 ((GRule.mk a_Kind (GAtom.mk a_Head_Name a_Head_Args) a_Body).Kind), .s (((GRule.mk a_Kind (GAtom.mk a_Head_Name a_Head_Args) a_Body).Head).Name), .sl true [.s [], .i .i64 0, .s []] ((((GRule.mk a_Kind (GAtom.mk a_Head_Name a_Head_Args) a_Body).Head).Args).map GTerm.cells), .sl true [.i .i64 0, .s [], .sl true [.s [], .i .i64 0, .s []] [], .i .i64 0, .s [], .i .i64 0, .s [], .s [], .i .i64 0, .s []] (((GRule.mk a_Kind (GAtom.mk a_Head_Name a_Head_Args) a_Body).Body).map (GLit.cells true true))])) := d7 _ (by rintro ⟨_, ⟨_, _⟩, _⟩ ⟨_, ⟨_, _⟩, _⟩ h; simp at h; simp_all) (GRule.mk a_Kind (GAtom.mk a_Head_Name a_Head_Args) a_Body)
theorem a9C : OkC Tryz.prog 48 a2Y := d8 _
def a4I : ACode := q' ([o' 2 (.mov (.k (.v false [.nl [.i .i64 0, .s [], .sl false [.s [], .i .i64 0, .s []] [], .sl false [.i .i64 0, .s [], .sl false [.s [], .i .i64 0, .s []]
 [], .i .i64 0, .s [], .i .i64 0, .s [], .s [], .i .i64 0, .s []] []]])))]) (q' ([m' 5 0, n' 6 5, o' 7 (.mks 4 72 [.i .i64, .s, .sl [.s [], .i .i64 0, .s []],
 .sl [.i .i64 0, .s [], .sl false [.s [], .i .i64 0, .s []] [], .i .i64 0, .s [], .i .i64 0, .s [], .s [], .i .i64 0, .s []]] (.t 6) (.t 6)), m' 3 7]) (.seq
 (q' ([z' 4 0]) (.block 0 (.loop (.seq (q' ([m' 8 4, m' 9 0, n' 10 9, r' 11 8 10]) (.cond (.t 11) .skip (.exit 0))) (.seq (.block 1 (g' [m' 14 3, m' 15 4, m'
 16 0, m' 17 4, i' 18 4 16 17, e' 19 4 18, c' 20 48 [19], i' 21 4 14 15, s' 4 21 20])) (g' [m' 12 4, a' 13 12, m' 4 13])))))) (q' ([m' 22 3, m' 2 22]) .ret)))
theorem b1o : cmp Tryz.prog Tryz.f65 = some a4I := by kernel_rfl
theorem b3s (a : List GRule) (hpre : (((a.length + k9 l8 a) : Nat) : Int) ≤ 1048576) : A0l Tryz.prog 65 [(false, [.sl false [.i .i64 0, .s [], .sl false [.s [], .i .i64 0, .s []] [], .sl false [.i .i64 0, .s [], .sl false [.s [], .i .i64 0, .s []] [], .i .i64 0, .s [], .i .i64 0, .s [], .s [], .i .i64 0, .s []] []] (a.map (GRule.cells false false))])] [] (.one (false, [.sl true [.i .i64 0, .s [], .sl true [.s [], .i .i64 0, .s []] [], .sl true [.i .i64 0, .s [], .sl true [.s [], .i .i64 0, .s []] [], .i .i64 0, .s [], .i .i64 0, .s [], .s [], .i .i64 0, .s []] []] (a.map (GRule.cells true true))])) := by
 refine spec_of2 true false none Tryz.func65 b1o (rvs := [.t 2]) (hΓ := mkCtx_ok (deep := true) (l := [(48, [], a2Y)]) ⟨a9C, trivial⟩) (h := ?_)
 intro hb hE
 simp only [go_sem] at hb
 simp only [a4I, x']
 (try refine A2V ?_); simp only [go_sem, a3e]; (repeat' first | apply CJ.mk | intro hc); all_goals try ((repeat' first | apply And.intro | intro hs) <;> (try simp only [go_sem, Bool.and_eq_false_iff] at hs) <;> omega)
 refine aw_loop2 true [] [0, 3] [] [] (fun i : {p : Nat × (List GRule) // p.1 ≤ a.length ∧ p.2.length = a.length ∧ p.2.take p.1 = a.take p.1} => [(4, slV (.i .i64 i.1.1))]) (fun i => []) (fun i => [(896, [.i .i64 0, .s [], .sl true [.s [], .i .i64 0, .s []] [], .sl true [.i .i64 0, .s [], .sl true [.s [], .i .i64 0, .s []] [], .i .i64 0, .s [], .i .i64 0, .s [], .s [], .i .i64 0, .s []] []], i.1.2.map (GRule.cells true true))]) (fun i => a.length - i.1.1) (⟨(0, List.replicate a.length default), by simp⟩) _ rfl ?_ ?_
 ·simp only [go_sem, a3e]
  all_goals first | omega | ((repeat' apply And.intro) <;> first | omega | rfl | skip)
 intro S0 hS0 i
 simp only [go_sem, a3e] at hS0
 obtain ⟨⟨i, L⟩, hi, hl, ht⟩ := i
 simp only at hi hl ht
 have hg := b5h l8 a i default rfl
 (try refine A2V ?_); simp only [go_sem, a3e, hS0]; (repeat' first | apply CJ.mk | intro hc); all_goals try ((repeat' first | apply And.intro | intro hs) <;> (try simp only [go_sem, Bool.and_eq_false_iff] at hs) <;> omega)
 ·(refine lpK_n2 (⟨(i + 1, L.set i (a.getD i default)), by simp only; omega, by simp [hl], a0I hl ht (by omega)⟩) _ rfl ?_; simp only [go_sem, a3e, hS0]; first | done | ((repeat' apply And.intro) <;> first | omega | (refine w64 ?_ ?_ ?_ <;> omega) | rfl | skip))
 ·obtain rfl := s7 hl ht (by omega)
  rfl
 all_goals trace_state
noncomputable def a2a : CT := o8 (fun (x : (List GRule)) h => b3s x h)
@[go_sem] theorem b9K (a : List GRule) : a2a [(false, [.sl false [.i .i64 0, .s [], .sl false [.s [], .i .i64 0, .s []] [], .sl false [.i .i64 0, .s [], .sl false [.s [], .i .i64 0, .s []] [], .i .i64 0, .s [], .i .i64 0, .s [], .s [], .i .i64 0, .s []] []] (a.map (GRule.cells false false))])] = some ((((a.length + k9 l8 a) : Nat) : Int) ≤ 1048576, [], .one (false, [.sl true [.i .i64 0, .s [], .sl true [.s [], .i .i64 0, .s []] [], .sl true [.i .i64 0, .s [], .sl true [.s [], .i .i64 0, .s []] [], .i .i64 0, .s [], .i .i64 0, .s [], .s [], .i .i64 0, .s []] []] (a.map (GRule.cells true true))])) := d7 _ (by intro x y h; simp at h; simp_all) a
theorem a8r : OkC Tryz.prog 65 a2a := d8 _
def a5u : ACode := q' ([o' 1 (.box 3 (.t 0)), w' 2 [.i .i64, .s, .i .i64]]) (q' ([w' 3 [.i .i64, .s, .i .i64]]) (q' ([f' 4 0 1, l' 5 4, f' 6 0 3, s' 1 6 5]) (q' ([f' 7 1 1, l' 8
 7, f' 9 1 3, s' 1 9 8]) (q' ([f' 10 2 1, l' 11 10, f' 12 2 3, s' 1 12 11]) (q' ([e' 13 3 3, s' 3 2 13]) .ret)))))
theorem b2N : cmp Tryz.prog Tryz.f137 = some a5u := by kernel_rfl
theorem b4v (a : GDecl) : A0l Tryz.prog 137 [(true, [.i .i64 a.Kind, .s a.Name, .i .i64 a.Arity])] [] (.one (true, [.i .i64 a.Kind, .s a.Name, .i .i64 a.Arity])) := by
 refine spec_of2 true false none Tryz.func137 b2N (rvs := [.c 2 true 3]) (hΓ := mkCtx_ok (deep := true) (l := []) trivial) (h := ?_)
 intro hb hE
 simp only [go_sem] at hb
 simp only [a5u, x']
 (try refine A2V ?_); simp only [go_sem]; (repeat' first | apply CJ.mk | intro hc); all_goals try ((repeat' first | apply And.intro | intro hs) <;> (try simp only [go_sem, Bool.and_eq_false_iff] at hs) <;> omega)
noncomputable def a2W : CT := c9 (fun (x : GDecl) => b4v x)
@[go_sem] theorem c0V (a_Kind : Int) (a_Name : List UInt8) (a_Arity : Int) : a2W [(true, [.i .i64 a_Kind, .s a_Name, .i .i64 a_Arity])] = some (True, [], .one (true, [.i .i64 ((GDecl.mk a_Kind a_Name a_Arity).Kind), .s ((GDecl.mk a_Kind a_Name a_Arity).Name), .i .i64 ((GDecl.mk a_Kind a_Name a_Arity).Arity)])) := c4 _ (by rintro ⟨_, _, _⟩ ⟨_, _, _⟩ h; simp at h; simp_all) (GDecl.mk a_Kind a_Name a_Arity)
theorem a9A : OkC Tryz.prog 137 a2W := c5 _
def a4H : ACode := q' ([o' 2 (.mov (.k (.v false [.nl [.i .i64 0, .s [], .i .i64 0]])))]) (q' ([m' 5 0, n' 6 5, o' 7 (.mks 3 32 [.i .i64, .s, .i .i64] (.t 6) (.t 6)), m' 3 7])
 (.seq (q' ([z' 4 0]) (.block 0 (.loop (.seq (q' ([m' 8 4, m' 9 0, n' 10 9, r' 11 8 10]) (.cond (.t 11) .skip (.exit 0))) (.seq (.block 1 (g' [m' 14 3, m' 15
 4, m' 16 0, m' 17 4, i' 18 3 16 17, e' 19 3 18, c' 20 137 [19], i' 21 3 14 15, s' 3 21 20])) (g' [m' 12 4, a' 13 12, m' 4 13])))))) (q' ([m' 22 3, m' 2 22])
 .ret)))
theorem b1n : cmp Tryz.prog Tryz.f64 = some a4H := by kernel_rfl
theorem b3r (a : List GDecl) (hpre : (((a.length + k9 s4 a) : Nat) : Int) ≤ 1048576) : A0l Tryz.prog 64 [(false, [.sl false [.i .i64 0, .s [], .i .i64 0] (a.map GDecl.cells)])] [] (.one (false, [.sl true [.i .i64 0, .s [], .i .i64 0] (a.map GDecl.cells)])) := by
 refine spec_of2 true false none Tryz.func64 b1n (rvs := [.t 2]) (hΓ := mkCtx_ok (deep := true) (l := [(137, [], a2W)]) ⟨a9A, trivial⟩) (h := ?_)
 intro hb hE
 simp only [go_sem] at hb
 simp only [a4H, x']
 (try refine A2V ?_); simp only [go_sem, a3d]; (repeat' first | apply CJ.mk | intro hc); all_goals try ((repeat' first | apply And.intro | intro hs) <;> (try simp only [go_sem, Bool.and_eq_false_iff] at hs) <;> omega)
 refine aw_loop2 true [] [0, 3] [] [] (fun i : {p : Nat × (List GDecl) // p.1 ≤ a.length ∧ p.2.length = a.length ∧ p.2.take p.1 = a.take p.1} => [(4, slV (.i .i64 i.1.1))]) (fun i => []) (fun i => [(896, [.i .i64 0, .s [], .i .i64 0], i.1.2.map GDecl.cells)]) (fun i => a.length - i.1.1) (⟨(0, List.replicate a.length default), by simp⟩) _ rfl ?_ ?_
 ·simp only [go_sem, a3d]
  all_goals first | omega | ((repeat' apply And.intro) <;> first | omega | rfl | skip)
 intro S0 hS0 i
 simp only [go_sem, a3d] at hS0
 obtain ⟨⟨i, L⟩, hi, hl, ht⟩ := i
 simp only at hi hl ht
 (try refine A2V ?_); simp only [go_sem, a3d, hS0]; (repeat' first | apply CJ.mk | intro hc); all_goals try ((repeat' first | apply And.intro | intro hs) <;> (try simp only [go_sem, Bool.and_eq_false_iff] at hs) <;> omega)
 ·(refine lpK_n2 (⟨(i + 1, L.set i (a.getD i default)), by simp only; omega, by simp [hl], a0I hl ht (by omega)⟩) _ rfl ?_; simp only [go_sem, a3d, hS0]; first | done | ((repeat' apply And.intro) <;> first | omega | (refine w64 ?_ ?_ ?_ <;> omega) | rfl | skip))
 ·obtain rfl := s7 hl ht (by omega)
  rfl
 all_goals trace_state
noncomputable def a1Z : CT := o8 (fun (x : (List GDecl)) h => b3r x h)
@[go_sem] theorem b9J (a : List GDecl) : a1Z [(false, [.sl false [.i .i64 0, .s [], .i .i64 0] (a.map GDecl.cells)])] = some ((((a.length + k9 s4 a) : Nat) : Int) ≤ 1048576, [], .one (false, [.sl true [.i .i64 0, .s [], .i .i64 0] (a.map GDecl.cells)])) := d7 _ (by intro x y h; simp at h; simp_all) a
theorem a8q : OkC Tryz.prog 64 a1Z := d8 _
def a2s : ACode := q' ([o' 1 (.box 2 (.t 0)), w' 2 [.sl [.i .i64 0, .s [], .i .i64 0], .sl [.i .i64 0, .s [], .sl false [.s [], .i .i64 0, .s []] [], .sl false [.i .i64 0, .s [],
 .sl false [.s [], .i .i64 0, .s []] [], .i .i64 0, .s [], .i .i64 0, .s [], .s [], .i .i64 0, .s []] []]]]) (q' ([w' 3 [.sl [.i .i64 0, .s [], .i .i64 0], .sl
 [.i .i64 0, .s [], .sl false [.s [], .i .i64 0, .s []] [], .sl false [.i .i64 0, .s [], .sl false [.s [], .i .i64 0, .s []] [], .i .i64 0, .s [], .i .i64 0,
 .s [], .s [], .i .i64 0, .s []] []]]]) (q' ([f' 4 0 1, l' 5 4, c' 6 64 [5], f' 7 0 3, s' 1 7 6]) (q' ([f' 8 1 1, l' 9 8, c' 10 65 [9], f' 11 1 3, s' 1 11 10])
 (q' ([e' 12 2 3, s' 2 2 12]) .ret))))
theorem a8G : cmp Tryz.prog Tryz.f14 = some a2s := by kernel_rfl
theorem b0h (a : GProgram) (hpre : (a0r a : Int) ≤ 1048576) : A0l Tryz.prog 14 [(true, [.sl false [.i .i64 0, .s [], .i .i64 0] (a.Decls.map GDecl.cells), .sl false [.i .i64 0, .s [], .sl false [.s [], .i .i64 0, .s []] [], .sl false [.i .i64 0, .s [], .sl false [.s [], .i .i64 0, .s []] [], .i .i64 0, .s [], .i .i64 0, .s [], .s [], .i .i64 0, .s []] []] (a.Rules.map (GRule.cells false false))])] [] (.one (true, [.sl true [.i .i64 0, .s [], .i .i64 0] (a.Decls.map GDecl.cells), .sl true [.i .i64 0, .s [], .sl true [.s [], .i .i64 0, .s []] [], .sl true [.i .i64 0, .s [], .sl true [.s [], .i .i64 0, .s []] [], .i .i64 0, .s [], .i .i64 0, .s [], .s [], .i .i64 0, .s []] []] (a.Rules.map (GRule.cells true true))])) := by
 refine spec_of2 true false none Tryz.func14 a8G (rvs := [.c 2 true 2]) (hΓ := mkCtx_ok (deep := true) (l := [(64, [], a1Z), (65, [], a2a)]) ⟨a8q, a8r, trivial⟩) (h := ?_)
 intro hb hE
 simp only [go_sem] at hb
 simp only [a2s, x']
 (try refine A2V ?_); simp only [go_sem]; (repeat' first | apply CJ.mk | intro hc); all_goals try ((repeat' first | apply And.intro | intro hs) <;> (try simp only [go_sem, Bool.and_eq_false_iff] at hs) <;> omega)
 all_goals (simp only [a0r] at *; omega)
noncomputable def a0h : CT := o8 (fun (x : GProgram) h => b0h x h)
@[go_sem] theorem b7P (a_Decls : List GDecl) (a_Rules : List GRule) : a0h [(true, [.sl false [.i .i64 0, .s [], .i .i64 0] (a_Decls.map GDecl.cells), .sl false [.i .i64 0, .s [], .sl false [.s [], .i .i64 0, .s []] [], .sl false [.i .i64 0, .s [], .sl false [.s [], .i .i64 0, .s []] [], .i .i64 0, .s [], .i .i64 0, .s [], .s [], .i .i64 0, .s []] []] (a_Rules.map (GRule.cells false false))])] = some ((a0r (GProgram.mk a_Decls a_Rules) : Int) ≤ 1048576, [], .one (true, [.sl true [.i .i64 0, .s [], .i .i64 0] (((GProgram.mk a_Decls a_Rules).Decls).map GDecl.cells), .sl true [.i .i64 0, .s [], .sl true [.s [], .i .i64 0, .s []] [], .sl true [.i .i64 0, .s [], .sl true [.s [], .i .i64 0, .s []] [], .i .i64 0, .s [], .i .i64 0, .s [], .s [], .i .i64 0, .s []] []] (((GProgram.mk a_Decls a_Rules).Rules).map (GRule.cells true true))])) := d7 _ (by rintro ⟨_, _⟩ ⟨_, _⟩ h; simp at h; simp_all) (GProgram.mk a_Decls a_Rules)
theorem a6y : OkC Tryz.prog 14 a0h := d8 _
def a5j : ACode := q' ([o' 2 (.box 2 (.t 0)), o' 3 (.box 2 (.t 1)), b' 4 false]) (.seq (q' ([f' 5 0 2, l' 6 5, f' 7 0 3, l' 8 7, o' 9 (.bin .neq (.t 6) (.t 8))]) (.cond (.t 9) (q'
 ([b' 4 false]) .ret) .skip)) (.seq (q' ([f' 10 1 2, l' 11 10, f' 12 1 3, l' 13 12, c' 14 205 [11, 13], o' 15 (.not (.t 14))]) (.cond (.t 15) (q' ([b' 4
 false]) .ret) .skip)) (q' ([b' 4 true]) .ret)))
theorem b2C : cmp Tryz.prog Tryz.f122 = some a5j := by kernel_rfl
theorem b4k (a : GAtom) (b : GAtom) : A0l Tryz.prog 122 [(true, [.s a.Name, .sl false [.s [], .i .i64 0, .s []] (a.Args.map GTerm.cells)]), (true, [.s b.Name, .sl false [.s [], .i .i64 0, .s []] (b.Args.map GTerm.cells)])] [] (.one (false, [.b (decide (a = b))])) := by
 refine spec_of2 false false none Tryz.func122 b2C (rvs := [.t 4]) (hΓ := mkCtx_ok (deep := false) (l := [(205, [], a1T)]) ⟨a8k, trivial⟩) (h := ?_)
 intro hb hE
 simp only [go_sem] at hb
 simp only [a5j, x']
 (try refine A2V ?_); simp only [go_sem]; (repeat' first | apply CJ.mk | intro hc); all_goals try ((repeat' first | apply And.intro | intro hs) <;> (try simp only [go_sem, Bool.and_eq_false_iff] at hs) <;> omega)
 all_goals (cases a; cases b; simp_all)
noncomputable def a0z : CT := c9 (fun (x : GAtom × GAtom) => b4k x.1 x.2)
@[go_sem] theorem c0K (a_Name : List UInt8) (a_Args : List GTerm) (b_Name : List UInt8) (b_Args : List GTerm) : a0z [(true, [.s a_Name, .sl false [.s [], .i .i64 0, .s []] (a_Args.map GTerm.cells)]), (true, [.s b_Name, .sl false [.s [], .i .i64 0, .s []] (b_Args.map GTerm.cells)])] = some (True, [], .one (false, [.b (decide ((GAtom.mk a_Name a_Args) = (GAtom.mk b_Name b_Args)))])) := c4 _ (by rintro ⟨⟨_, _⟩, ⟨_, _⟩⟩ ⟨⟨_, _⟩, ⟨_, _⟩⟩ h; simp at h; simp_all) ((GAtom.mk a_Name a_Args), (GAtom.mk b_Name b_Args))
theorem a3A : OkC Tryz.prog 122 a0z := c5 _
def a6R : ACode := q' ([o' 2 (.box 10 (.t 0)), o' 3 (.box 10 (.t 1)), b' 4 false]) (.seq (q' ([f' 5 0 2, l' 6 5, f' 7 0 3, l' 8 7, o' 9 (.bin .neq (.t 6) (.t 8))]) (.cond (.t 9)
 (q' ([b' 4 false]) .ret) .skip)) (.seq (q' ([f' 10 1 2, e' 11 2 10, f' 12 1 3, e' 13 2 12, c' 14 122 [11, 13], o' 15 (.not (.t 14))]) (.cond (.t 15) (q' ([b'
 4 false]) .ret) .skip)) (.seq (q' ([f' 16 3 2, l' 17 16, f' 18 3 3, l' 19 18, o' 20 (.bin .neq (.t 17) (.t 19))]) (.cond (.t 20) (q' ([b' 4 false]) .ret)
 .skip)) (.seq (q' ([f' 21 4 2, e' 22 3 21, f' 23 4 3, e' 24 3 23, c' 25 289 [22, 24], o' 26 (.not (.t 25))]) (.cond (.t 26) (q' ([b' 4 false]) .ret) .skip))
 (.seq (q' ([f' 27 7 2, e' 28 3 27, f' 29 7 3, e' 30 3 29, c' 31 289 [28, 30], o' 32 (.not (.t 31))]) (.cond (.t 32) (q' ([b' 4 false]) .ret) .skip)) (q' ([b'
 4 true]) .ret))))))
theorem b3U : cmp Tryz.prog Tryz.f206 = some a6R := by kernel_rfl
theorem b5V (a : GLit) (b : GLit) : A0l Tryz.prog 206 [(true, [.i .i64 a.Kind, .s a.Atom.Name, .sl false [.s [], .i .i64 0, .s []] (a.Atom.Args.map GTerm.cells), .i .i64 a.Op, .s a.A.Var, .i .i64 a.A.Val.N, .s a.A.Val.S, .s a.B.Var, .i .i64 a.B.Val.N, .s a.B.Val.S]), (true, [.i .i64 b.Kind, .s b.Atom.Name, .sl false [.s [], .i .i64 0, .s []] (b.Atom.Args.map GTerm.cells), .i .i64 b.Op, .s b.A.Var, .i .i64 b.A.Val.N, .s b.A.Val.S, .s b.B.Var, .i .i64 b.B.Val.N, .s b.B.Val.S])] [] (.one (false, [.b (decide (a = b))])) := by
 refine spec_of2 false false none Tryz.func206 b3U (rvs := [.t 4]) (hΓ := mkCtx_ok (deep := false) (l := [(122, [], a0z), (289, [], a0A)]) ⟨a3A, a3B, trivial⟩) (h := ?_)
 intro hb hE
 simp only [go_sem] at hb
 simp only [a6R, x']
 (try refine A2V ?_); simp only [go_sem]; (repeat' first | apply CJ.mk | intro hc); all_goals try ((repeat' first | apply And.intro | intro hs) <;> (try simp only [go_sem, Bool.and_eq_false_iff] at hs) <;> omega)
 all_goals (cases a; cases b; simp_all)
noncomputable def a4c : CT := c9 (fun (x : GLit × GLit) => b5V x.1 x.2)
@[go_sem] theorem c1P (a_Kind : Int) (a_Atom_Name : List UInt8) (a_Atom_Args : List GTerm) (a_Op : Int) (a_A_Var : List UInt8) (a_A_Val_N : Int) (a_A_Val_S : List UInt8) (a_B_Var : List UInt8) (a_B_Val_N : Int) (a_B_Val_S : List UInt8) (b_Kind : Int) (b_Atom_Name : List UInt8) (b_Atom_Args : List GTerm) (b_Op : Int) (b_A_Var : List UInt8) (b_A_Val_N : Int) (b_A_Val_S : List UInt8) (b_B_Var : List UInt8) (b_B_Val_N : Int) (b_B_Val_S : List UInt8) : a4c [(true, [.i .i64 a_Kind, .s a_Atom_Name, .sl false [.s [], .i .i64 0, .s []] (a_Atom_Args.map GTerm.cells), .i .i64 a_Op, .s a_A_Var, .i .i64 a_A_Val_N, .s a_A_Val_S, .s a_B_Var, .i .i64 a_B_Val_N, .s a_B_Val_S]), (true, [.i .i64 b_Kind, .s b_Atom_Name, .sl false [.s [], .i .i64 0, .s []] (b_Atom_Args.map GTerm.cells), .i .i64 b_Op, .s b_A_Var, .i .i64 b_A_Val_N, .s b_A_Val_S, .s b_B_Var, .i .i64 b_B_Val_N, .s b_B_Val_S])] = some (True, [], .one (false, [.b (decide ((GLit.mk a_Kind (GAtom.mk a_Atom_Name a_Atom_Args) a_Op (GTerm.mk a_A_Var (GValue.mk a_A_Val_N a_A_Val_S)) (GTerm.mk a_B_Var (GValue.mk a_B_Val_N a_B_Val_S))) = (GLit.mk b_Kind (GAtom.mk b_Atom_Name b_Atom_Args) b_Op (GTerm.mk b_A_Var (GValue.mk b_A_Val_N b_A_Val_S)) (GTerm.mk b_B_Var (GValue.mk b_B_Val_N b_B_Val_S)))))])) := c4 _ (by rintro ⟨⟨_, ⟨_, _⟩, _, ⟨_, ⟨_, _⟩⟩, ⟨_, ⟨_, _⟩⟩⟩, ⟨_, ⟨_, _⟩, _, ⟨_, ⟨_, _⟩⟩, ⟨_, ⟨_, _⟩⟩⟩⟩ ⟨⟨_, ⟨_, _⟩, _, ⟨_, ⟨_, _⟩⟩, ⟨_, ⟨_, _⟩⟩⟩, ⟨_, ⟨_, _⟩, _, ⟨_, ⟨_, _⟩⟩, ⟨_, ⟨_, _⟩⟩⟩⟩ h; simp at h; simp_all) ((GLit.mk a_Kind (GAtom.mk a_Atom_Name a_Atom_Args) a_Op (GTerm.mk a_A_Var (GValue.mk a_A_Val_N a_A_Val_S)) (GTerm.mk a_B_Var (GValue.mk a_B_Val_N a_B_Val_S))), (GLit.mk b_Kind (GAtom.mk b_Atom_Name b_Atom_Args) b_Op (GTerm.mk b_A_Var (GValue.mk b_A_Val_N b_A_Val_S)) (GTerm.mk b_B_Var (GValue.mk b_B_Val_N b_B_Val_S))))
theorem b0Q : OkC Tryz.prog 206 a4c := c5 _
def a5l : ACode := q' ([b' 4 false]) (.seq (q' ([m' 6 0, n' 7 6, m' 8 1, n' 9 8, o' 10 (.bin .neq (.t 7) (.t 9))]) (.cond (.t 10) (q' ([b' 4 false]) .ret) .skip)) (.seq (q' ([z' 5
 0]) (.block 0 (.loop (.seq (q' ([m' 11 5, m' 12 0, n' 13 12, r' 14 11 13]) (.cond (.t 14) .skip (.exit 0))) (.seq (.block 1 (.seq (.reg true [m' 17 0, m' 18
 5, i' 19 10 17 18, e' 20 10 19, m' 21 1, m' 22 5, i' 23 10 21 22, e' 24 10 23, c' 25 206 [20, 24], o' 26 (.not (.t 25))]) (.cond (.t 26) (q' ([b' 4 false])
 .ret) .skip))) (g' [m' 15 5, a' 16 15, m' 5 16])))))) (q' ([b' 4 true]) .ret)))
theorem b2E : cmp Tryz.prog Tryz.f123 = some a5l := by kernel_rfl
theorem b4m (a : List GLit) (b : List GLit) : A0l Tryz.prog 123 [(false, [.sl false [.i .i64 0, .s [], .sl false [.s [], .i .i64 0, .s []] [], .i .i64 0, .s [], .i .i64 0, .s [], .s [], .i .i64 0, .s []] (a.map (GLit.cells false false))]), (false, [.sl false [.i .i64 0, .s [], .sl false [.s [], .i .i64 0, .s []] [], .i .i64 0, .s [], .i .i64 0, .s [], .s [], .i .i64 0, .s []] (b.map (GLit.cells false false))])] [] (.one (false, [.b (decide (a = b))])) := by
 refine spec_of2 false false none Tryz.func123 b2E (rvs := [.t 4]) (hΓ := mkCtx_ok (deep := false) (l := [(206, [], a4c)]) ⟨b0Q, trivial⟩) (h := ?_)
 intro hb hE
 simp only [go_sem] at hb
 simp only [a5l, x']
 (try refine A2V ?_); simp only [go_sem]; (repeat' first | apply CJ.mk | intro hc); all_goals try ((repeat' first | apply And.intro | intro hs) <;> (try simp only [go_sem, Bool.and_eq_false_iff] at hs) <;> omega)
 ·symm
  rw [decide_eq_false_iff_not]
  rintro rfl
  simp at hc
 have hl : a.length = b.length := by simpa [Int.ofNat_inj] using hc
 refine aw_loop2 false [] [0, 1] [] [] (fun i : {i : Nat // i ≤ a.length ∧ a.take i = b.take i} => [(5, slV (.i .i64 i.1))]) (fun i => []) (fun i => []) (fun i => a.length - i.1) (⟨0, by simp⟩) _ rfl ?_ ?_
 ·simp only [go_sem]
  all_goals first | omega | ((repeat' apply And.intro) <;> first | omega | rfl | skip)
 intro S0 hS0 i
 simp only [go_sem] at hS0
 obtain ⟨i, hi, ht⟩ := i
 (try refine A2V ?_); simp only [go_sem, hS0]; (repeat' first | apply CJ.mk | intro hc); all_goals try ((repeat' first | apply And.intro | intro hs) <;> (try simp only [go_sem, Bool.and_eq_false_iff] at hs) <;> omega)
 ·exact (decide_eq_false (a4o default (i := i) (by simpa using hc))).symm
 ·(refine lpK_n2 (⟨i + 1, by omega, a1v ht (by omega) (by omega) (d := default) (by simpa using hc)⟩) _ rfl ?_; simp only [go_sem, hS0]; first | done | ((repeat' apply And.intro) <;> first | omega | (refine w64 ?_ ?_ ?_ <;> omega) | rfl | skip))
 ·exact (decide_eq_true (s7 hl ht (by omega))).symm
 all_goals trace_state
noncomputable def a2R : CT := c9 (fun (x : (List GLit) × (List GLit)) => b4m x.1 x.2)
@[go_sem] theorem c0M (a : List GLit) (b : List GLit) : a2R [(false, [.sl false [.i .i64 0, .s [], .sl false [.s [], .i .i64 0, .s []] [], .i .i64 0, .s [], .i .i64 0, .s [], .s [], .i .i64 0, .s []] (a.map (GLit.cells false false))]), (false, [.sl false [.i .i64 0, .s [], .sl false [.s [], .i .i64 0, .s []] [], .i .i64 0, .s [], .i .i64 0, .s [], .s [], .i .i64 0, .s []] (b.map (GLit.cells false false))])] = some (True, [], .one (false, [.b (decide (a = b))])) := c4 _ (by rintro ⟨_, _⟩ ⟨_, _⟩ h; simp at h; simp_all) (a, b)
theorem a9v : OkC Tryz.prog 123 a2R := c5 _
def a5m : ACode := q' ([o' 2 (.box 4 (.t 0)), o' 3 (.box 4 (.t 1)), b' 4 false]) (.seq (q' ([f' 5 0 2, l' 6 5, f' 7 0 3, l' 8 7, o' 9 (.bin .neq (.t 6) (.t 8))]) (.cond (.t 9) (q'
 ([b' 4 false]) .ret) .skip)) (.seq (q' ([f' 10 1 2, e' 11 2 10, f' 12 1 3, e' 13 2 12, c' 14 122 [11, 13], o' 15 (.not (.t 14))]) (.cond (.t 15) (q' ([b' 4
 false]) .ret) .skip)) (.seq (q' ([f' 16 3 2, l' 17 16, f' 18 3 3, l' 19 18, c' 20 123 [17, 19], o' 21 (.not (.t 20))]) (.cond (.t 21) (q' ([b' 4 false]) .ret)
 .skip)) (q' ([b' 4 true]) .ret))))
theorem b2F : cmp Tryz.prog Tryz.f51 = some a5m := by kernel_rfl
theorem b4n (a : GRule) (b : GRule) : A0l Tryz.prog 51 [(true, [.i .i64 a.Kind, .s a.Head.Name, .sl false [.s [], .i .i64 0, .s []] (a.Head.Args.map GTerm.cells), .sl false [.i .i64 0, .s [], .sl false [.s [], .i .i64 0, .s []] [], .i .i64 0, .s [], .i .i64 0, .s [], .s [], .i .i64 0, .s []] (a.Body.map (GLit.cells false false))]), (true, [.i .i64 b.Kind, .s b.Head.Name, .sl false [.s [], .i .i64 0, .s []] (b.Head.Args.map GTerm.cells), .sl false [.i .i64 0, .s [], .sl false [.s [], .i .i64 0, .s []] [], .i .i64 0, .s [], .i .i64 0, .s [], .s [], .i .i64 0, .s []] (b.Body.map (GLit.cells false false))])] [] (.one (false, [.b (decide (a = b))])) := by
 refine spec_of2 false false none Tryz.func51 b2F (rvs := [.t 4]) (hΓ := mkCtx_ok (deep := false) (l := [(122, [], a0z), (123, [], a2R)]) ⟨a3A, a9v, trivial⟩) (h := ?_)
 intro hb hE
 simp only [go_sem] at hb
 simp only [a5m, x']
 (try refine A2V ?_); simp only [go_sem]; (repeat' first | apply CJ.mk | intro hc); all_goals try ((repeat' first | apply And.intro | intro hs) <;> (try simp only [go_sem, Bool.and_eq_false_iff] at hs) <;> omega)
 all_goals (cases a; cases b; simp_all)
noncomputable def a2S : CT := c9 (fun (x : GRule × GRule) => b4n x.1 x.2)
@[go_sem] theorem c0N (a_Kind : Int) (a_Head_Name : List UInt8) (a_Head_Args : List GTerm) (a_Body : List GLit) (b_Kind : Int) (b_Head_Name : List UInt8) (b_Head_Args : List GTerm) (b_Body : List GLit) : a2S [(true, [.i .i64 a_Kind, .s a_Head_Name, .sl false [.s [], .i .i64 0, .s []] (a_Head_Args.map GTerm.cells), .sl false [.i .i64 0, .s [], .sl false [.s [], .i .i64 0, .s []] [], .i .i64 0, .s [], .i .i64 0, .s [], .s [], .i .i64 0, .s []] (a_Body.map (GLit.cells false false))]), (true, [.i .i64 b_Kind, .s b_Head_Name, .sl false [.s [], .i .i64 0, .s []] (b_Head_Args.map GTerm.cells), .sl false [.i .i64 0, .s [], .sl false [.s [], .i .i64 0, .s []] [], .i .i64 0, .s [], .i .i64 0, .s [], .s [], .i .i64 0, .s []] (b_Body.map (GLit.cells false false))])] = some (True, [], .one (false, [.b (decide ((GRule.mk a_Kind (GAtom.mk a_Head_Name a_Head_Args) a_Body) = (GRule.mk b_Kind (GAtom.mk b_Head_Name b_Head_Args) b_Body)))])) := c4 _ (by rintro ⟨⟨_, ⟨_, _⟩, _⟩, ⟨_, ⟨_, _⟩, _⟩⟩ ⟨⟨_, ⟨_, _⟩, _⟩, ⟨_, ⟨_, _⟩, _⟩⟩ h; simp at h; simp_all) ((GRule.mk a_Kind (GAtom.mk a_Head_Name a_Head_Args) a_Body), (GRule.mk b_Kind (GAtom.mk b_Head_Name b_Head_Args) b_Body))
theorem a9w : OkC Tryz.prog 51 a2S := c5 _
def a4A : ACode := q' ([b' 4 false]) (.seq (q' ([m' 6 0, n' 7 6, m' 8 1, n' 9 8, o' 10 (.bin .neq (.t 7) (.t 9))]) (.cond (.t 10) (q' ([b' 4 false]) .ret) .skip)) (.seq (q' ([z' 5
 0]) (.block 0 (.loop (.seq (q' ([m' 11 5, m' 12 0, n' 13 12, r' 14 11 13]) (.cond (.t 14) .skip (.exit 0))) (.seq (.block 1 (.seq (.reg true [m' 17 0, m' 18
 5, i' 19 4 17 18, e' 20 4 19, m' 21 1, m' 22 5, i' 23 4 21 22, e' 24 4 23, c' 25 51 [20, 24], o' 26 (.not (.t 25))]) (.cond (.t 26) (q' ([b' 4 false]) .ret)
 .skip))) (g' [m' 15 5, a' 16 15, m' 5 16])))))) (q' ([b' 4 true]) .ret)))
theorem b1g : cmp Tryz.prog Tryz.f70 = some a4A := by kernel_rfl
theorem b3k (a : List GRule) (b : List GRule) : A0l Tryz.prog 70 [(false, [.sl false [.i .i64 0, .s [], .sl false [.s [], .i .i64 0, .s []] [], .sl false [.i .i64 0, .s [], .sl false [.s [], .i .i64 0, .s []] [], .i .i64 0, .s [], .i .i64 0, .s [], .s [], .i .i64 0, .s []] []] (a.map (GRule.cells false false))]), (false, [.sl false [.i .i64 0, .s [], .sl false [.s [], .i .i64 0, .s []] [], .sl false [.i .i64 0, .s [], .sl false [.s [], .i .i64 0, .s []] [], .i .i64 0, .s [], .i .i64 0, .s [], .s [], .i .i64 0, .s []] []] (b.map (GRule.cells false false))])] [] (.one (false, [.b (decide (a = b))])) := by
 refine spec_of2 false false none Tryz.func70 b1g (rvs := [.t 4]) (hΓ := mkCtx_ok (deep := false) (l := [(51, [], a2S)]) ⟨a9w, trivial⟩) (h := ?_)
 intro hb hE
 simp only [go_sem] at hb
 simp only [a4A, x']
 (try refine A2V ?_); simp only [go_sem]; (repeat' first | apply CJ.mk | intro hc); all_goals try ((repeat' first | apply And.intro | intro hs) <;> (try simp only [go_sem, Bool.and_eq_false_iff] at hs) <;> omega)
 ·symm
  rw [decide_eq_false_iff_not]
  rintro rfl
  simp at hc
 have hl : a.length = b.length := by simpa [Int.ofNat_inj] using hc
 refine aw_loop2 false [] [0, 1] [] [] (fun i : {i : Nat // i ≤ a.length ∧ a.take i = b.take i} => [(5, slV (.i .i64 i.1))]) (fun i => []) (fun i => []) (fun i => a.length - i.1) (⟨0, by simp⟩) _ rfl ?_ ?_
 ·simp only [go_sem]
  all_goals first | omega | ((repeat' apply And.intro) <;> first | omega | rfl | skip)
 intro S0 hS0 i
 simp only [go_sem] at hS0
 obtain ⟨i, hi, ht⟩ := i
 (try refine A2V ?_); simp only [go_sem, hS0]; (repeat' first | apply CJ.mk | intro hc); all_goals try ((repeat' first | apply And.intro | intro hs) <;> (try simp only [go_sem, Bool.and_eq_false_iff] at hs) <;> omega)
 ·exact (decide_eq_false (a4o default (i := i) (by simpa using hc))).symm
 ·(refine lpK_n2 (⟨i + 1, by omega, a1v ht (by omega) (by omega) (d := default) (by simpa using hc)⟩) _ rfl ?_; simp only [go_sem, hS0]; first | done | ((repeat' apply And.intro) <;> first | omega | (refine w64 ?_ ?_ ?_ <;> omega) | rfl | skip))
 ·exact (decide_eq_true (s7 hl ht (by omega))).symm
 all_goals trace_state
noncomputable def a1S : CT := c9 (fun (x : (List GRule) × (List GRule)) => b3k x.1 x.2)
@[go_sem] theorem b9C (a : List GRule) (b : List GRule) : a1S [(false, [.sl false [.i .i64 0, .s [], .sl false [.s [], .i .i64 0, .s []] [], .sl false [.i .i64 0, .s [], .sl false [.s [], .i .i64 0, .s []] [], .i .i64 0, .s [], .i .i64 0, .s [], .s [], .i .i64 0, .s []] []] (a.map (GRule.cells false false))]), (false, [.sl false [.i .i64 0, .s [], .sl false [.s [], .i .i64 0, .s []] [], .sl false [.i .i64 0, .s [], .sl false [.s [], .i .i64 0, .s []] [], .i .i64 0, .s [], .i .i64 0, .s [], .s [], .i .i64 0, .s []] []] (b.map (GRule.cells false false))])] = some (True, [], .one (false, [.b (decide (a = b))])) := c4 _ (by rintro ⟨_, _⟩ ⟨_, _⟩ h; simp at h; simp_all) (a, b)
theorem a8j : OkC Tryz.prog 70 a1S := c5 _
def a5k : ACode := q' ([o' 2 (.box 3 (.t 0)), o' 3 (.box 3 (.t 1)), b' 4 false]) (.seq (q' ([f' 5 0 2, l' 6 5, f' 7 0 3, l' 8 7, o' 9 (.bin .neq (.t 6) (.t 8))]) (.cond (.t 9) (q'
 ([b' 4 false]) .ret) .skip)) (.seq (q' ([f' 10 1 2, l' 11 10, f' 12 1 3, l' 13 12, o' 14 (.bin .neq (.t 11) (.t 13))]) (.cond (.t 14) (q' ([b' 4 false]) .ret)
 .skip)) (.seq (q' ([f' 15 2 2, l' 16 15, f' 17 2 3, l' 18 17, o' 19 (.bin .neq (.t 16) (.t 18))]) (.cond (.t 19) (q' ([b' 4 false]) .ret) .skip)) (q' ([b' 4
 true]) .ret))))
theorem b2D : cmp Tryz.prog Tryz.f144 = some a5k := by kernel_rfl
theorem b4l (a : GDecl) (b : GDecl) : A0l Tryz.prog 144 [(true, [.i .i64 a.Kind, .s a.Name, .i .i64 a.Arity]), (true, [.i .i64 b.Kind, .s b.Name, .i .i64 b.Arity])] [] (.one (false, [.b (decide (a = b))])) := by
 refine spec_of2 false false none Tryz.func144 b2D (rvs := [.t 4]) (hΓ := mkCtx_ok (deep := false) (l := []) trivial) (h := ?_)
 intro hb hE
 simp only [go_sem] at hb
 simp only [a5k, x']
 (try refine A2V ?_); simp only [go_sem]; (repeat' first | apply CJ.mk | intro hc); all_goals try ((repeat' first | apply And.intro | intro hs) <;> (try simp only [go_sem, Bool.and_eq_false_iff] at hs) <;> omega)
 all_goals (cases a; cases b; simp_all)
noncomputable def a2Q : CT := c9 (fun (x : GDecl × GDecl) => b4l x.1 x.2)
@[go_sem] theorem c0L (a_Kind : Int) (a_Name : List UInt8) (a_Arity : Int) (b_Kind : Int) (b_Name : List UInt8) (b_Arity : Int) : a2Q [(true, [.i .i64 a_Kind, .s a_Name, .i .i64 a_Arity]), (true, [.i .i64 b_Kind, .s b_Name, .i .i64 b_Arity])] = some (True, [], .one (false, [.b (decide ((GDecl.mk a_Kind a_Name a_Arity) = (GDecl.mk b_Kind b_Name b_Arity)))])) := c4 _ (by rintro ⟨⟨_, _, _⟩, ⟨_, _, _⟩⟩ ⟨⟨_, _, _⟩, ⟨_, _, _⟩⟩ h; simp at h; simp_all) ((GDecl.mk a_Kind a_Name a_Arity), (GDecl.mk b_Kind b_Name b_Arity))
theorem a9u : OkC Tryz.prog 144 a2Q := c5 _
def a4z : ACode := q' ([b' 4 false]) (.seq (q' ([m' 6 0, n' 7 6, m' 8 1, n' 9 8, o' 10 (.bin .neq (.t 7) (.t 9))]) (.cond (.t 10) (q' ([b' 4 false]) .ret) .skip)) (.seq (q' ([z' 5
 0]) (.block 0 (.loop (.seq (q' ([m' 11 5, m' 12 0, n' 13 12, r' 14 11 13]) (.cond (.t 14) .skip (.exit 0))) (.seq (.block 1 (.seq (.reg true [m' 17 0, m' 18
 5, i' 19 3 17 18, e' 20 3 19, m' 21 1, m' 22 5, i' 23 3 21 22, e' 24 3 23, c' 25 144 [20, 24], o' 26 (.not (.t 25))]) (.cond (.t 26) (q' ([b' 4 false]) .ret)
 .skip))) (g' [m' 15 5, a' 16 15, m' 5 16])))))) (q' ([b' 4 true]) .ret)))
theorem b1f : cmp Tryz.prog Tryz.f69 = some a4z := by kernel_rfl
theorem b3j (a : List GDecl) (b : List GDecl) : A0l Tryz.prog 69 [(false, [.sl false [.i .i64 0, .s [], .i .i64 0] (a.map GDecl.cells)]), (false, [.sl false [.i .i64 0, .s [], .i .i64 0] (b.map GDecl.cells)])] [] (.one (false, [.b (decide (a = b))])) := by
 refine spec_of2 false false none Tryz.func69 b1f (rvs := [.t 4]) (hΓ := mkCtx_ok (deep := false) (l := [(144, [], a2Q)]) ⟨a9u, trivial⟩) (h := ?_)
 intro hb hE
 simp only [go_sem] at hb
 simp only [a4z, x']
 (try refine A2V ?_); simp only [go_sem]; (repeat' first | apply CJ.mk | intro hc); all_goals try ((repeat' first | apply And.intro | intro hs) <;> (try simp only [go_sem, Bool.and_eq_false_iff] at hs) <;> omega)
 ·symm
  rw [decide_eq_false_iff_not]
  rintro rfl
  simp at hc
 have hl : a.length = b.length := by simpa [Int.ofNat_inj] using hc
 refine aw_loop2 false [] [0, 1] [] [] (fun i : {i : Nat // i ≤ a.length ∧ a.take i = b.take i} => [(5, slV (.i .i64 i.1))]) (fun i => []) (fun i => []) (fun i => a.length - i.1) (⟨0, by simp⟩) _ rfl ?_ ?_
 ·simp only [go_sem]
  all_goals first | omega | ((repeat' apply And.intro) <;> first | omega | rfl | skip)
 intro S0 hS0 i
 simp only [go_sem] at hS0
 obtain ⟨i, hi, ht⟩ := i
 (try refine A2V ?_); simp only [go_sem, hS0]; (repeat' first | apply CJ.mk | intro hc); all_goals try ((repeat' first | apply And.intro | intro hs) <;> (try simp only [go_sem, Bool.and_eq_false_iff] at hs) <;> omega)
 ·exact (decide_eq_false (a4o default (i := i) (by simpa using hc))).symm
 ·(refine lpK_n2 (⟨i + 1, by omega, a1v ht (by omega) (by omega) (d := default) (by simpa using hc)⟩) _ rfl ?_; simp only [go_sem, hS0]; first | done | ((repeat' apply And.intro) <;> first | omega | (refine w64 ?_ ?_ ?_ <;> omega) | rfl | skip))
 ·exact (decide_eq_true (s7 hl ht (by omega))).symm
 all_goals trace_state
noncomputable def a1R : CT := c9 (fun (x : (List GDecl) × (List GDecl)) => b3j x.1 x.2)
@[go_sem] theorem b9B (a : List GDecl) (b : List GDecl) : a1R [(false, [.sl false [.i .i64 0, .s [], .i .i64 0] (a.map GDecl.cells)]), (false, [.sl false [.i .i64 0, .s [], .i .i64 0] (b.map GDecl.cells)])] = some (True, [], .one (false, [.b (decide (a = b))])) := c4 _ (by rintro ⟨_, _⟩ ⟨_, _⟩ h; simp at h; simp_all) (a, b)
theorem a8i : OkC Tryz.prog 69 a1R := c5 _
def a2q : ACode := q' ([o' 2 (.box 2 (.t 0)), o' 3 (.box 2 (.t 1)), b' 4 false]) (.seq (q' ([f' 5 0 2, l' 6 5, f' 7 0 3, l' 8 7, c' 9 69 [6, 8], o' 10 (.not (.t 9))]) (.cond (.t
 10) (q' ([b' 4 false]) .ret) .skip)) (.seq (q' ([f' 11 1 2, l' 12 11, f' 13 1 3, l' 14 13, c' 15 70 [12, 14], o' 16 (.not (.t 15))]) (.cond (.t 16) (q' ([b' 4
 false]) .ret) .skip)) (q' ([b' 4 true]) .ret)))
theorem a8E : cmp Tryz.prog Tryz.f17 = some a2q := by kernel_rfl
theorem b0f (a : GProgram) (b : GProgram) : A0l Tryz.prog 17 [(true, [.sl false [.i .i64 0, .s [], .i .i64 0] (a.Decls.map GDecl.cells), .sl false [.i .i64 0, .s [], .sl false [.s [], .i .i64 0, .s []] [], .sl false [.i .i64 0, .s [], .sl false [.s [], .i .i64 0, .s []] [], .i .i64 0, .s [], .i .i64 0, .s [], .s [], .i .i64 0, .s []] []] (a.Rules.map (GRule.cells false false))]), (true, [.sl false [.i .i64 0, .s [], .i .i64 0] (b.Decls.map GDecl.cells), .sl false [.i .i64 0, .s [], .sl false [.s [], .i .i64 0, .s []] [], .sl false [.i .i64 0, .s [], .sl false [.s [], .i .i64 0, .s []] [], .i .i64 0, .s [], .i .i64 0, .s [], .s [], .i .i64 0, .s []] []] (b.Rules.map (GRule.cells false false))])] [] (.one (false, [.b (decide (a = b))])) := by
 refine spec_of2 false false none Tryz.func17 a8E (rvs := [.t 4]) (hΓ := mkCtx_ok (deep := false) (l := [(69, [], a1R), (70, [], a1S)]) ⟨a8i, a8j, trivial⟩) (h := ?_)
 intro hb hE
 simp only [go_sem] at hb
 simp only [a2q, x']
 (try refine A2V ?_); simp only [go_sem]; (repeat' first | apply CJ.mk | intro hc); all_goals try ((repeat' first | apply And.intro | intro hs) <;> (try simp only [go_sem, Bool.and_eq_false_iff] at hs) <;> omega)
 all_goals (cases a; cases b; simp_all)
noncomputable def a0f : CT := c9 (fun (x : GProgram × GProgram) => b0f x.1 x.2)
@[go_sem] theorem b7N (a_Decls : List GDecl) (a_Rules : List GRule) (b_Decls : List GDecl) (b_Rules : List GRule) : a0f [(true, [.sl false [.i .i64 0, .s [], .i .i64 0] (a_Decls.map GDecl.cells), .sl false [.i .i64 0, .s [], .sl false [.s [], .i .i64 0, .s []] [], .sl false [.i .i64 0, .s [], .sl false [.s [], .i .i64 0, .s []] [], .i .i64 0, .s [], .i .i64 0, .s [], .s [], .i .i64 0, .s []] []] (a_Rules.map (GRule.cells false false))]), (true, [.sl false [.i .i64 0, .s [], .i .i64 0] (b_Decls.map GDecl.cells), .sl false [.i .i64 0, .s [], .sl false [.s [], .i .i64 0, .s []] [], .sl false [.i .i64 0, .s [], .sl false [.s [], .i .i64 0, .s []] [], .i .i64 0, .s [], .i .i64 0, .s [], .s [], .i .i64 0, .s []] []] (b_Rules.map (GRule.cells false false))])] = some (True, [], .one (false, [.b (decide ((GProgram.mk a_Decls a_Rules) = (GProgram.mk b_Decls b_Rules)))])) := c4 _ (by rintro ⟨⟨_, _⟩, ⟨_, _⟩⟩ ⟨⟨_, _⟩, ⟨_, _⟩⟩ h; simp at h; simp_all) ((GProgram.mk a_Decls a_Rules), (GProgram.mk b_Decls b_Rules))
theorem a6w : OkC Tryz.prog 17 a0f := c5 _
end Go.Aw
