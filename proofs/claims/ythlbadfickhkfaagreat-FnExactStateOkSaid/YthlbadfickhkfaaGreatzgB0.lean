/- Environments: sizes, copies, equalities. No condition. -/
import Derived.Test.YthlbadfickhkfaaGreatzgG1
import Derived.Test.YthlbadfickhkfaaGreathBwtzg
namespace Go.Aw
open Go.Proofs
attribute [local irreducible] aft blk lpK retK AW A0l
set_option linter.unusedVariables false
set_option linter.unusedSimpArgs false
set_option maxRecDepth 100000
def s8 (x : c9) : Nat := x.S.length
def a6M : ACode := q' ([o' 2 (.box 2 (.t 0)), z' 4 0]) (q' ([m' 5 1, f' 6 1 2, l' 7 6, o' 8 (.lens (.t 7)), o' 9 (.bin .sub (.t 5) (.t 8)), m' 1 9]) (.seq (q' ([m' 10 1, o' 11
 (.bin .lss (.t 10) (k' 0))]) (.cond (.t 11) (q' ([o' 4 (.mov (.k (.v false [.c (.i .i64 (-1))])))]) .ret) .skip)) (q' ([m' 12 1, m' 4 12]) .ret)))
theorem b4L : cmp Tryz.prog Tryz.f241 = some a6M := by kernel_rfl
theorem b7s (a : c9) (left : Int) (hpre : 0 ≤ left ∧ left ≤ 1048576) : A0l Tryz.prog 241 [(true, [.i .i64 a.N, .s a.S]), (false, [.i .i64 left])] [] (.one (false, [.i .i64 (szR left (s8 a : Nat))])) := by
 refine spec_of2 false false none Tryz.func241 b4L (rvs := [.t 4]) (hΓ := mkCtx_ok (deep := false) (l := []) trivial) (h := ?_)
 intro hb hE
 simp only [go_sem] at hb
 simp only [a6M, x']
 (try refine A2V ?_); simp only [go_sem]; (repeat' first | apply CJ.mk | intro hc); all_goals try ((repeat' first | apply And.intro | intro hs) <;> (try simp only [go_sem, Bool.and_eq_false_iff] at hs) <;> omega)
 all_goals ((repeat (simp (disch := omega) only [t8] at *)) <;> (try simp only [szR, s8] at *) <;> (first | omega | (split <;> omega)))
noncomputable def a0C : CT := o6 (fun (x : c9 × Int) h => b7s x.1 x.2 h)
@[go_sem] theorem c4W (x0 : Int) (x1 : List UInt8) (x2 : Int) : a0C [(true, [.i .i64 x0, .s x1]), (false, [.i .i64 x2])] = some (0 ≤ x2 ∧ x2 ≤ 1048576, [], .one (false, [.i .i64 (szR x2 (s8 (c9.mk x0 x1) : Nat))])) := i6 _ (by rintro ⟨⟨_, _⟩, _⟩ ⟨⟨_, _⟩, _⟩ h; simp at h; simp_all) ((c9.mk x0 x1), x2)
theorem a3W : OkC Tryz.prog 241 a0C := i7 _
def a6S : ACode := q' ([o' 1 (.box 2 (.t 0)), w' 2 [.i .i64, .s]]) (q' ([w' 3 [.i .i64, .s]]) (q' ([f' 4 0 1, l' 5 4, f' 6 0 3, s' 1 6 5]) (q' ([f' 7 1 1, l' 8 7, f' 9 1 3, s' 1 9
 8]) (q' ([e' 10 2 3, s' 2 2 10]) .ret))))
theorem b4R : cmp Tryz.prog Tryz.f243 = some a6S := by kernel_rfl
theorem b7y (a : c9) : A0l Tryz.prog 243 [(true, [.i .i64 a.N, .s a.S])] [] (.one (true, [.i .i64 a.N, .s a.S])) := by
 refine spec_of2 true false none Tryz.func243 b4R (rvs := [.c 2 true 2]) (hΓ := mkCtx_ok (deep := true) (l := []) trivial) (h := ?_)
 intro hb hE
 simp only [go_sem] at hb
 simp only [a6S, x']
 (try refine A2V ?_); simp only [go_sem]; (repeat' first | apply CJ.mk | intro hc); all_goals try ((repeat' first | apply And.intro | intro hs) <;> (try simp only [go_sem, Bool.and_eq_false_iff] at hs) <;> omega)
noncomputable def a0D : CT := i5 (fun (x : c9) => b7y x)
@[go_sem] theorem c5c (x0 : Int) (x1 : List UInt8) : a0D [(true, [.i .i64 x0, .s x1])] = some (True, [], .one (true, [.i .i64 ((c9.mk x0 x1).N), .s ((c9.mk x0 x1).S)])) := f7 _ (by rintro ⟨_, _⟩ ⟨_, _⟩ h; simp at h; simp_all) (c9.mk x0 x1)
theorem a3X : OkC Tryz.prog 243 a0D := f8 _
def a6G : ACode := q' ([o' 2 (.box 2 (.t 0)), o' 3 (.box 2 (.t 1)), b' 4 false]) (.seq (q' ([f' 5 0 2, l' 6 5, f' 7 0 3, l' 8 7, o' 9 (.bin .neq (.t 6) (.t 8))]) (.cond (.t 9) (q'
 ([b' 4 false]) .ret) .skip)) (.seq (q' ([f' 10 1 2, l' 11 10, f' 12 1 3, l' 13 12, o' 14 (.bin .neq (.t 11) (.t 13))]) (.cond (.t 14) (q' ([b' 4 false]) .ret)
 .skip)) (q' ([b' 4 true]) .ret)))
theorem b4F : cmp Tryz.prog Tryz.f247 = some a6G := by kernel_rfl
theorem b7m (a : c9) (b : c9) : A0l Tryz.prog 247 [(true, [.i .i64 a.N, .s a.S]), (true, [.i .i64 b.N, .s b.S])] [] (.one (false, [.b (decide (a = b))])) := by
 refine spec_of2 false false none Tryz.func247 b4F (rvs := [.t 4]) (hΓ := mkCtx_ok (deep := false) (l := []) trivial) (h := ?_)
 intro hb hE
 simp only [go_sem] at hb
 simp only [a6G, x']
 (try refine A2V ?_); simp only [go_sem]; (repeat' first | apply CJ.mk | intro hc); all_goals try ((repeat' first | apply And.intro | intro hs) <;> (try simp only [go_sem, Bool.and_eq_false_iff] at hs) <;> omega)
 all_goals (cases a; cases b; simp_all)
noncomputable def a0B : CT := i5 (fun (x : c9 × c9) => b7m x.1 x.2)
@[go_sem] theorem c4Q (x0 : Int) (x1 : List UInt8) (x2 : Int) (x3 : List UInt8) : a0B [(true, [.i .i64 x0, .s x1]), (true, [.i .i64 x2, .s x3])] = some (True, [], .one (false, [.b (decide ((c9.mk x0 x1) = (c9.mk x2 x3)))])) := f7 _ (by rintro ⟨⟨_, _⟩, ⟨_, _⟩⟩ ⟨⟨_, _⟩, ⟨_, _⟩⟩ h; simp at h; simp_all) ((c9.mk x0 x1), (c9.mk x2 x3))
theorem a3V : OkC Tryz.prog 247 a0B := f8 _
end Go.Aw
