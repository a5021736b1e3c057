/- Environments: sizes, copies, equalities. No condition. -/
import Derived.Test.YthlbadfickhkfaaGreatzfG1
import Derived.Test.YthlbadfickhkfaaGreathBwtzf
namespace Go.Aw
open Go.Proofs
attribute [local irreducible] aft blk lpK retK AW A0l
set_option linter.unusedVariables false
set_option linter.unusedSimpArgs false
set_option maxRecDepth 100000
def a8H (x : d5) : Nat := x.S.length
def a4z : ACode := q' ([o' 2 (.box 2 (.t 0)), z' 4 0]) (q' ([m' 5 1, f' 6 1 2, l' 7 6, o' 8 (.lens (.t 7)), o' 9 (.bin .sub (.t 5) (.t 8)), m' 1 9]) (.seq (q' ([m' 10 1, o' 11
 (.bin .lss (.t 10) (k' 0))]) (.cond (.t 11) (q' ([o' 4 (.mov (.k (.v false [.c (.i .i64 (-1))])))]) .ret) .skip)) (q' ([m' 12 1, m' 4 12]) .ret)))
theorem b0D : cmp Tryz.prog Tryz.f241 = some a4z := by kernel_rfl
theorem b2y (a : d5) (left : Int) (hpre : 0 ≤ left ∧ left ≤ 1048576) : A0l Tryz.prog 241 [(true, [.i .i64 a.N, .s a.S]), (false, [.i .i64 left])] [] (.one (false, [.i .i64 (szR left (a8H a : Nat))])) := by
 refine spec_of2 false false none Tryz.func241 b0D (rvs := [.t 4]) (hΓ := mkCtx_ok (deep := false) (l := []) trivial) (h := ?_)
 intro hb hE
 simp only [go_sem] at hb
 simp only [a4z, x']
 (try refine A2V ?_); simp only [go_sem]; (repeat' first | apply CJ.mk | intro hc); all_goals try ((repeat' first | apply And.intro | intro hs) <;> (try simp only [go_sem, Bool.and_eq_false_iff] at hs) <;> omega)
 all_goals ((repeat (simp (disch := omega) only [a0u] at *)) <;> (try simp only [szR, a8H] at *) <;> (first | omega | (split <;> omega)))
noncomputable def a1S : CT := o6 (fun (x : d5 × Int) h => b2y x.1 x.2 h)
@[go_sem] theorem b7z (x0 : Int) (x1 : List UInt8) (x2 : Int) : a1S [(true, [.i .i64 x0, .s x1]), (false, [.i .i64 x2])] = some (0 ≤ x2 ∧ x2 ≤ 1048576, [], .one (false, [.i .i64 (szR x2 (a8H (d5.mk x0 x1) : Nat))])) := i3 _ (by rintro ⟨⟨_, _⟩, _⟩ ⟨⟨_, _⟩, _⟩ h; simp at h; simp_all) ((d5.mk x0 x1), x2)
theorem a7W : OkC Tryz.prog 241 a1S := i4 _
def a4D : ACode := q' ([o' 1 (.box 2 (.t 0)), w' 2 [.i .i64, .s]]) (q' ([w' 3 [.i .i64, .s]]) (q' ([f' 4 0 1, l' 5 4, f' 6 0 3, s' 1 6 5]) (q' ([f' 7 1 1, l' 8 7, f' 9 1 3, s' 1 9
 8]) (q' ([e' 10 2 3, s' 2 2 10]) .ret))))
theorem b0H : cmp Tryz.prog Tryz.f243 = some a4D := by kernel_rfl
theorem b2C (a : d5) : A0l Tryz.prog 243 [(true, [.i .i64 a.N, .s a.S])] [] (.one (true, [.i .i64 a.N, .s a.S])) := by
 refine spec_of2 true false none Tryz.func243 b0H (rvs := [.c 2 true 2]) (hΓ := mkCtx_ok (deep := true) (l := []) trivial) (h := ?_)
 intro hb hE
 simp only [go_sem] at hb
 simp only [a4D, x']
 (try refine A2V ?_); simp only [go_sem]; (repeat' first | apply CJ.mk | intro hc); all_goals try ((repeat' first | apply And.intro | intro hs) <;> (try simp only [go_sem, Bool.and_eq_false_iff] at hs) <;> omega)
noncomputable def a1W : CT := i6 (fun (x : d5) => b2C x)
@[go_sem] theorem b7D (x0 : Int) (x1 : List UInt8) : a1W [(true, [.i .i64 x0, .s x1])] = some (True, [], .one (true, [.i .i64 ((d5.mk x0 x1).N), .s ((d5.mk x0 x1).S)])) := f7 _ (by rintro ⟨_, _⟩ ⟨_, _⟩ h; simp at h; simp_all) (d5.mk x0 x1)
theorem a8a : OkC Tryz.prog 243 a1W := f8 _
def a4v : ACode := q' ([o' 2 (.box 2 (.t 0)), o' 3 (.box 2 (.t 1)), b' 4 false]) (.seq (q' ([f' 5 0 2, l' 6 5, f' 7 0 3, l' 8 7, o' 9 (.bin .neq (.t 6) (.t 8))]) (.cond (.t 9) (q'
 ([b' 4 false]) .ret) .skip)) (.seq (q' ([f' 10 1 2, l' 11 10, f' 12 1 3, l' 13 12, o' 14 (.bin .neq (.t 11) (.t 13))]) (.cond (.t 14) (q' ([b' 4 false]) .ret)
 .skip)) (q' ([b' 4 true]) .ret)))
theorem b0z : cmp Tryz.prog Tryz.f247 = some a4v := by kernel_rfl
theorem b2u (a : d5) (b : d5) : A0l Tryz.prog 247 [(true, [.i .i64 a.N, .s a.S]), (true, [.i .i64 b.N, .s b.S])] [] (.one (false, [.b (decide (a = b))])) := by
 refine spec_of2 false false none Tryz.func247 b0z (rvs := [.t 4]) (hΓ := mkCtx_ok (deep := false) (l := []) trivial) (h := ?_)
 intro hb hE
 simp only [go_sem] at hb
 simp only [a4v, x']
 (try refine A2V ?_); simp only [go_sem]; (repeat' first | apply CJ.mk | intro hc); all_goals try ((repeat' first | apply And.intro | intro hs) <;> (try simp only [go_sem, Bool.and_eq_false_iff] at hs) <;> omega)
 all_goals (cases a; cases b; simp_all)
noncomputable def z3 : CT := i6 (fun (x : d5 × d5) => b2u x.1 x.2)
@[go_sem] theorem b7v (x0 : Int) (x1 : List UInt8) (x2 : Int) (x3 : List UInt8) : z3 [(true, [.i .i64 x0, .s x1]), (true, [.i .i64 x2, .s x3])] = some (True, [], .one (false, [.b (decide ((d5.mk x0 x1) = (d5.mk x2 x3)))])) := f7 _ (by rintro ⟨⟨_, _⟩, ⟨_, _⟩⟩ ⟨⟨_, _⟩, ⟨_, _⟩⟩ h; simp at h; simp_all) ((d5.mk x0 x1), (d5.mk x2 x3))
theorem a2w : OkC Tryz.prog 247 z3 := f8 _
end Go.Aw
