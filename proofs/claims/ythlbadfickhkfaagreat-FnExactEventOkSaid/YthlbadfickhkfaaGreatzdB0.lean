/- Environments: sizes, copies, equalities. No condition. -/
import Derived.Test.YthlbadfickhkfaaGreatzdG1
import Derived.Test.YthlbadfickhkfaaGreathBwtzd
namespace Go.Aw
open Go.Proofs
attribute [local irreducible] aft blk lpK retK AW A0l
set_option linter.unusedVariables false
set_option linter.unusedSimpArgs false
set_option maxRecDepth 100000
def l9 (x : GValue) : Nat := x.S.length
def a5b : ACode := q' ([o' 2 (.box 2 (.t 0)), z' 4 0]) (q' ([m' 5 1, f' 6 1 2, l' 7 6, o' 8 (.lens (.t 7)), o' 9 (.bin .sub (.t 5) (.t 8)), m' 1 9]) (.seq (q' ([m' 10 1, o' 11
 (.bin .lss (.t 10) (k' 0))]) (.cond (.t 11) (q' ([o' 4 (.mov (.k (.v false [.c (.i .i64 (-1))])))]) .ret) .skip)) (q' ([m' 12 1, m' 4 12]) .ret)))
theorem b1Q : cmp Tryz.prog Tryz.f241 = some a5b := by kernel_rfl
theorem b4c (a : GValue) (left : Int) (hpre : 0 ≤ left ∧ left ≤ 1048576) : A0l Tryz.prog 241 [(true, [.i .i64 a.N, .s a.S]), (false, [.i .i64 left])] [] (.one (false, [.i .i64 (szR left (l9 a : Nat))])) := by
 refine spec_of2 false false none Tryz.func241 b1Q (rvs := [.t 4]) (hΓ := mkCtx_ok (deep := false) (l := []) trivial) (h := ?_)
 intro hb hE
 simp only [go_sem] at hb
 simp only [a5b, x']
 (try refine A2V ?_); simp only [go_sem]; (repeat' first | apply CJ.mk | intro hc); all_goals try ((repeat' first | apply And.intro | intro hs) <;> (try simp only [go_sem, Bool.and_eq_false_iff] at hs) <;> omega)
 all_goals ((repeat (simp (disch := omega) only [t8] at *)) <;> (try simp only [szR, l9] at *) <;> (first | omega | (split <;> omega)))
noncomputable def y5 : CT := n8 (fun (x : GValue × Int) h => b4c x.1 x.2 h)
@[go_sem] theorem c0L (a_N : Int) (a_S : List UInt8) (left : Int) : y5 [(true, [.i .i64 a_N, .s a_S]), (false, [.i .i64 left])] = some (0 ≤ left ∧ left ≤ 1048576, [], .one (false, [.i .i64 (szR left (l9 (GValue.mk a_N a_S) : Nat))])) := d3 _ (by rintro ⟨⟨_, _⟩, _⟩ ⟨⟨_, _⟩, _⟩ h; simp at h; simp_all) ((GValue.mk a_N a_S), left)
theorem a2J : OkC Tryz.prog 241 y5 := d4 _
def a5g : ACode := q' ([o' 1 (.box 2 (.t 0)), w' 2 [.i .i64, .s]]) (q' ([w' 3 [.i .i64, .s]]) (q' ([f' 4 0 1, l' 5 4, f' 6 0 3, s' 1 6 5]) (q' ([f' 7 1 1, l' 8 7, f' 9 1 3, s' 1 9
 8]) (q' ([e' 10 2 3, s' 2 2 10]) .ret))))
theorem b1V : cmp Tryz.prog Tryz.f243 = some a5g := by kernel_rfl
theorem b4h (a : GValue) : A0l Tryz.prog 243 [(true, [.i .i64 a.N, .s a.S])] [] (.one (true, [.i .i64 a.N, .s a.S])) := by
 refine spec_of2 true false none Tryz.func243 b1V (rvs := [.c 2 true 2]) (hΓ := mkCtx_ok (deep := true) (l := []) trivial) (h := ?_)
 intro hb hE
 simp only [go_sem] at hb
 simp only [a5g, x']
 (try refine A2V ?_); simp only [go_sem]; (repeat' first | apply CJ.mk | intro hc); all_goals try ((repeat' first | apply And.intro | intro hs) <;> (try simp only [go_sem, Bool.and_eq_false_iff] at hs) <;> omega)
noncomputable def y6 : CT := c8 (fun (x : GValue) => b4h x)
@[go_sem] theorem c0Q (a_N : Int) (a_S : List UInt8) : y6 [(true, [.i .i64 a_N, .s a_S])] = some (True, [], .one (true, [.i .i64 ((GValue.mk a_N a_S).N), .s ((GValue.mk a_N a_S).S)])) := c4 _ (by rintro ⟨_, _⟩ ⟨_, _⟩ h; simp at h; simp_all) (GValue.mk a_N a_S)
theorem a2K : OkC Tryz.prog 243 y6 := c5 _
def a4W : ACode := q' ([o' 2 (.box 2 (.t 0)), o' 3 (.box 2 (.t 1)), b' 4 false]) (.seq (q' ([f' 5 0 2, l' 6 5, f' 7 0 3, l' 8 7, o' 9 (.bin .neq (.t 6) (.t 8))]) (.cond (.t 9) (q'
 ([b' 4 false]) .ret) .skip)) (.seq (q' ([f' 10 1 2, l' 11 10, f' 12 1 3, l' 13 12, o' 14 (.bin .neq (.t 11) (.t 13))]) (.cond (.t 14) (q' ([b' 4 false]) .ret)
 .skip)) (q' ([b' 4 true]) .ret)))
theorem b1L : cmp Tryz.prog Tryz.f247 = some a4W := by kernel_rfl
theorem b3X (a : GValue) (b : GValue) : A0l Tryz.prog 247 [(true, [.i .i64 a.N, .s a.S]), (true, [.i .i64 b.N, .s b.S])] [] (.one (false, [.b (decide (a = b))])) := by
 refine spec_of2 false false none Tryz.func247 b1L (rvs := [.t 4]) (hΓ := mkCtx_ok (deep := false) (l := []) trivial) (h := ?_)
 intro hb hE
 simp only [go_sem] at hb
 simp only [a4W, x']
 (try refine A2V ?_); simp only [go_sem]; (repeat' first | apply CJ.mk | intro hc); all_goals try ((repeat' first | apply And.intro | intro hs) <;> (try simp only [go_sem, Bool.and_eq_false_iff] at hs) <;> omega)
 all_goals (cases a; cases b; simp_all)
noncomputable def y4 : CT := c8 (fun (x : GValue × GValue) => b3X x.1 x.2)
@[go_sem] theorem c0G (a_N : Int) (a_S : List UInt8) (b_N : Int) (b_S : List UInt8) : y4 [(true, [.i .i64 a_N, .s a_S]), (true, [.i .i64 b_N, .s b_S])] = some (True, [], .one (false, [.b (decide ((GValue.mk a_N a_S) = (GValue.mk b_N b_S)))])) := c4 _ (by rintro ⟨⟨_, _⟩, ⟨_, _⟩⟩ ⟨⟨_, _⟩, ⟨_, _⟩⟩ h; simp at h; simp_all) ((GValue.mk a_N a_S), (GValue.mk b_N b_S))
theorem a2I : OkC Tryz.prog 247 y4 := c5 _
end Go.Aw
