/- Environments: sizes, copies, equalities. No condition. -/
import Derived.Test.YthlbadfickhkfaaGreatzhG1
import Derived.Test.YthlbadfickhkfaaGreatlBwtzh
namespace Go.Aw
open Go.Proofs
attribute [local irreducible] aft blk lpK retK AW A0m
set_option linter.unusedVariables false
set_option linter.unusedSimpArgs false
set_option maxRecDepth 100000
def u3 (x : c6) : Nat := x.S.length
def a6v : ACode := q' ([o' 2 (.box 2 (.t 0)), z' 4 0]) (q' ([m' 5 1, f' 6 1 2, l' 7 6, o' 8 (.lens (.t 7)), o' 9 (.bin .sub (.t 5) (.t 8)), m' 1 9]) (.seq (q' ([m' 10 1, o' 11
 (.bin .lss (.t 10) (k' 0))]) (.cond (.t 11) (q' ([o' 4 (.mov (.k (.v false [.c (.i .i64 (-1))])))]) .ret) .skip)) (q' ([m' 12 1, m' 4 12]) .ret)))
theorem b3K : cmp Tryz.prog Tryz.f241 = some a6v := by kernel_rfl
theorem b6D (a : c6) (left : Int) (hpre : 0 ≤ left ∧ left ≤ 1048576) : A0m Tryz.prog 241 [(true, [.i .i64 a.N, .s a.S]), (false, [.i .i64 left])] [] (.one (false, [.i .i64 (szR left (u3 a : Nat))])) := by
 refine spec_of2 false false none Tryz.func241 b3K (rvs := [.t 4]) (hΓ := mkCtx_ok (deep := false) (l := []) trivial) (h := ?_)
 intro hb hE
 simp only [go_sem] at hb
 simp only [a6v, x']
 (try refine A2Z ?_); simp only [go_sem]; (repeat' first | apply CJ.mk | intro hc); all_goals try ((repeat' first | apply And.intro | intro hs) <;> (try simp only [go_sem, Bool.and_eq_false_iff] at hs) <;> omega)
 all_goals ((repeat (simp (disch := omega) only [a0k] at *)) <;> (try simp only [szR, u3] at *) <;> (first | omega | (split <;> omega)))
noncomputable def a0F : CT := l8 (fun (x : c6 × Int) h => b6D x.1 x.2 h)
@[go_sem] theorem c4e (x0 : Int) (x1 : List UInt8) (x2 : Int) : a0F [(true, [.i .i64 x0, .s x1]), (false, [.i .i64 x2])] = some (0 ≤ x2 ∧ x2 ≤ 1048576, [], .one (false, [.i .i64 (szR x2 (u3 (c6.mk x0 x1) : Nat))])) := f9 _ (by rintro ⟨⟨_, _⟩, _⟩ ⟨⟨_, _⟩, _⟩ h; simp at h; simp_all) ((c6.mk x0 x1), x2)
theorem a3M : OkC Tryz.prog 241 a0F := i3 _
def a6z : ACode := q' ([o' 1 (.box 2 (.t 0)), w' 2 [.i .i64, .s]]) (q' ([w' 3 [.i .i64, .s]]) (q' ([f' 4 0 1, l' 5 4, f' 6 0 3, s' 1 6 5]) (q' ([f' 7 1 1, l' 8 7, f' 9 1 3, s' 1 9
 8]) (q' ([e' 10 2 3, s' 2 2 10]) .ret))))
theorem b3O : cmp Tryz.prog Tryz.f243 = some a6z := by kernel_rfl
theorem b6H (a : c6) : A0m Tryz.prog 243 [(true, [.i .i64 a.N, .s a.S])] [] (.one (true, [.i .i64 a.N, .s a.S])) := by
 refine spec_of2 true false none Tryz.func243 b3O (rvs := [.c 2 true 2]) (hΓ := mkCtx_ok (deep := true) (l := []) trivial) (h := ?_)
 intro hb hE
 simp only [go_sem] at hb
 simp only [a6z, x']
 (try refine A2Z ?_); simp only [go_sem]; (repeat' first | apply CJ.mk | intro hc); all_goals try ((repeat' first | apply And.intro | intro hs) <;> (try simp only [go_sem, Bool.and_eq_false_iff] at hs) <;> omega)
noncomputable def a0G : CT := j7 (fun (x : c6) => b6H x)
@[go_sem] theorem c4i (x0 : Int) (x1 : List UInt8) : a0G [(true, [.i .i64 x0, .s x1])] = some (True, [], .one (true, [.i .i64 ((c6.mk x0 x1).N), .s ((c6.mk x0 x1).S)])) := f7 _ (by rintro ⟨_, _⟩ ⟨_, _⟩ h; simp at h; simp_all) (c6.mk x0 x1)
theorem a3N : OkC Tryz.prog 243 a0G := f8 _
def a6r : ACode := q' ([o' 2 (.box 2 (.t 0)), o' 3 (.box 2 (.t 1)), b' 4 false]) (.seq (q' ([f' 5 0 2, l' 6 5, f' 7 0 3, l' 8 7, o' 9 (.bin .neq (.t 6) (.t 8))]) (.cond (.t 9) (q'
 ([b' 4 false]) .ret) .skip)) (.seq (q' ([f' 10 1 2, l' 11 10, f' 12 1 3, l' 13 12, o' 14 (.bin .neq (.t 11) (.t 13))]) (.cond (.t 14) (q' ([b' 4 false]) .ret)
 .skip)) (q' ([b' 4 true]) .ret)))
theorem b3G : cmp Tryz.prog Tryz.f247 = some a6r := by kernel_rfl
theorem b6z (a : c6) (b : c6) : A0m Tryz.prog 247 [(true, [.i .i64 a.N, .s a.S]), (true, [.i .i64 b.N, .s b.S])] [] (.one (false, [.b (decide (a = b))])) := by
 refine spec_of2 false false none Tryz.func247 b3G (rvs := [.t 4]) (hΓ := mkCtx_ok (deep := false) (l := []) trivial) (h := ?_)
 intro hb hE
 simp only [go_sem] at hb
 simp only [a6r, x']
 (try refine A2Z ?_); simp only [go_sem]; (repeat' first | apply CJ.mk | intro hc); all_goals try ((repeat' first | apply And.intro | intro hs) <;> (try simp only [go_sem, Bool.and_eq_false_iff] at hs) <;> omega)
 all_goals (cases a; cases b; simp_all)
noncomputable def a0d : CT := j7 (fun (x : c6 × c6) => b6z x.1 x.2)
@[go_sem] theorem c4a (x0 : Int) (x1 : List UInt8) (x2 : Int) (x3 : List UInt8) : a0d [(true, [.i .i64 x0, .s x1]), (true, [.i .i64 x2, .s x3])] = some (True, [], .one (false, [.b (decide ((c6.mk x0 x1) = (c6.mk x2 x3)))])) := f7 _ (by rintro ⟨⟨_, _⟩, ⟨_, _⟩⟩ ⟨⟨_, _⟩, ⟨_, _⟩⟩ h; simp at h; simp_all) ((c6.mk x0 x1), (c6.mk x2 x3))
theorem a0C : OkC Tryz.prog 247 a0d := f8 _
def a7d : ACode := q' ([o' 2 (.box 3 (.t 0)), o' 3 (.box 3 (.t 1)), b' 4 false]) (.seq (q' ([f' 5 0 2, l' 6 5, f' 7 0 3, l' 8 7, o' 9 (.bin .neq (.t 6) (.t 8))]) (.cond (.t 9) (q'
 ([b' 4 false]) .ret) .skip)) (.seq (q' ([f' 10 1 2, e' 11 2 10, f' 12 1 3, e' 13 2 12, c' 14 247 [11, 13], o' 15 (.not (.t 14))]) (.cond (.t 15) (q' ([b' 4
 false]) .ret) .skip)) (q' ([b' 4 true]) .ret)))
theorem b5A : cmp Tryz.prog Tryz.f288 = some a7d := by kernel_rfl
theorem b8c (a : c7) (b : c7) : A0m Tryz.prog 288 [(true, [.s a.Var, .i .i64 a.Val.N, .s a.Val.S]), (true, [.s b.Var, .i .i64 b.Val.N, .s b.Val.S])] [] (.one (false, [.b (decide (a = b))])) := by
 refine spec_of2 false false none Tryz.func288 b5A (rvs := [.t 4]) (hΓ := mkCtx_ok (deep := false) (l := [(247, [], a0d)]) ⟨a0C, trivial⟩) (h := ?_)
 intro hb hE
 simp only [go_sem] at hb
 simp only [a7d, x']
 (try refine A2Z ?_); simp only [go_sem]; (repeat' first | apply CJ.mk | intro hc); all_goals try ((repeat' first | apply And.intro | intro hs) <;> (try simp only [go_sem, Bool.and_eq_false_iff] at hs) <;> omega)
 all_goals (cases a; cases b; simp_all)
noncomputable def a4e : CT := j7 (fun (x : c7 × c7) => b8c x.1 x.2)
@[go_sem] theorem c5x (x0 : List UInt8) (x1 : Int) (x2 x3 : List UInt8) (x4 : Int) (x5 : List UInt8) : a4e [(true, [.s x0, .i .i64 x1, .s x2]), (true, [.s x3, .i .i64 x4, .s x5])] = some (True, [], .one (false, [.b (decide ((c7.mk x0 (c6.mk x1 x2)) = (c7.mk x3 (c6.mk x4 x5))))])) := f7 _ (by rintro ⟨⟨_, ⟨_, _⟩⟩, ⟨_, ⟨_, _⟩⟩⟩ ⟨⟨_, ⟨_, _⟩⟩, ⟨_, ⟨_, _⟩⟩⟩ h; simp at h; simp_all) ((c7.mk x0 (c6.mk x1 x2)), (c7.mk x3 (c6.mk x4 x5)))
theorem b1o : OkC Tryz.prog 288 a4e := f8 _
def a6n : ACode := q' ([b' 4 false]) (.seq (q' ([m' 6 0, n' 7 6, m' 8 1, n' 9 8, o' 10 (.bin .neq (.t 7) (.t 9))]) (.cond (.t 10) (q' ([b' 4 false]) .ret) .skip)) (.seq (q' ([z' 5
 0]) (.block 0 (.loop (.seq (q' ([m' 11 5, m' 12 0, n' 13 12, r' 14 11 13]) (.cond (.t 14) .skip (.exit 0))) (.seq (.block 1 (.seq (.reg true [m' 17 0, m' 18
 5, i' 19 3 17 18, e' 20 3 19, m' 21 1, m' 22 5, i' 23 3 21 22, e' 24 3 23, c' 25 288 [20, 24], o' 26 (.not (.t 25))]) (.cond (.t 26) (q' ([b' 4 false]) .ret)
 .skip))) (g' [m' 15 5, a' 16 15, m' 5 16])))))) (q' ([b' 4 true]) .ret)))
theorem b3C : cmp Tryz.prog Tryz.f204 = some a6n := by kernel_rfl
theorem b6v (a : List c7) (b : List c7) : A0m Tryz.prog 204 [(false, [.sl false [.s [], .i .i64 0, .s []] (a.map c7.cells)]), (false, [.sl false [.s [], .i .i64 0, .s []] (b.map c7.cells)])] [] (.one (false, [.b (decide (a = b))])) := by
 refine spec_of2 false false none Tryz.func204 b3C (rvs := [.t 4]) (hΓ := mkCtx_ok (deep := false) (l := [(288, [], a4e)]) ⟨b1o, trivial⟩) (h := ?_)
 intro hb hE
 simp only [go_sem] at hb
 simp only [a6n, x']
 (try refine A2Z ?_); simp only [go_sem]; (repeat' first | apply CJ.mk | intro hc); all_goals try ((repeat' first | apply And.intro | intro hs) <;> (try simp only [go_sem, Bool.and_eq_false_iff] at hs) <;> omega)
 ·symm
  rw [decide_eq_false_iff_not]
  rintro rfl
  simp at hc
 have hl : a.length = b.length := by simpa [Int.ofNat_inj] using hc
 refine aw_loop2 false [] [0, 1] [] [] (fun i : {i : Nat // i ≤ a.length ∧ a.take i = b.take i} => [(5, slV (.i .i64 i.1))]) (fun i => []) (fun i => []) (fun i => a.length - i.1) (⟨0, by simp⟩) _ rfl ?_ ?_
 ·simp only [go_sem]
  all_goals first | omega | ((repeat' apply And.intro) <;> first | omega | rfl | skip)
 intro S0 hS0 i
 simp only [go_sem] at hS0
 obtain ⟨i, hi, ht⟩ := i
 (try refine A2Z ?_); simp only [go_sem, hS0]; (repeat' first | apply CJ.mk | intro hc); all_goals try ((repeat' first | apply And.intro | intro hs) <;> (try simp only [go_sem, Bool.and_eq_false_iff] at hs) <;> omega)
 ·exact (decide_eq_false (a0u default (i := i) (by simpa using hc))).symm
 ·(refine lpK_n2 (⟨i + 1, by omega, y7 ht (by omega) (by omega) (d := default) (by simpa using hc)⟩) _ rfl ?_; simp only [go_sem, hS0]; first | done | ((repeat' apply And.intro) <;> first | omega | (refine w64 ?_ ?_ ?_ <;> omega) | rfl | skip))
 ·exact (decide_eq_true (o7 hl ht (by omega))).symm
 all_goals trace_state
noncomputable def a3a : CT := j7 (fun (x : (List c7) × (List c7)) => b6v x.1 x.2)
@[go_sem] theorem c3W (a b : List c7) : a3a [(false, [.sl false [.s [], .i .i64 0, .s []] (a.map c7.cells)]), (false, [.sl false [.s [], .i .i64 0, .s []] (b.map c7.cells)])] = some (True, [], .one (false, [.b (decide (a = b))])) := f7 _ (by rintro ⟨_, _⟩ ⟨_, _⟩ h; simp at h; simp_all) (a, b)
theorem b0j : OkC Tryz.prog 204 a3a := f8 _
def a8I : ACode := q' ([o' 2 (.box 1 (.t 0)), o' 3 (.box 1 (.t 1)), b' 4 false]) (.seq (q' ([f' 5 0 2, l' 6 5, f' 7 0 3, l' 8 7, c' 9 204 [6, 8], o' 10 (.not (.t 9))]) (.cond (.t
 10) (q' ([b' 4 false]) .ret) .skip)) (q' ([b' 4 true]) .ret))
theorem b7A : cmp Tryz.prog Tryz.f121 = some a8I := by kernel_rfl
theorem c0c (a : c8) (b : c8) : A0m Tryz.prog 121 [(true, [.sl false [.s [], .i .i64 0, .s []] (a.Binds.map c7.cells)]), (true, [.sl false [.s [], .i .i64 0, .s []] (b.Binds.map c7.cells)])] [] (.one (false, [.b (decide (a = b))])) := by
 refine spec_of2 false false none Tryz.func121 b7A (rvs := [.t 4]) (hΓ := mkCtx_ok (deep := false) (l := [(204, [], a3a)]) ⟨b0j, trivial⟩) (h := ?_)
 intro hb hE
 simp only [go_sem] at hb
 simp only [a8I, x']
 (try refine A2Z ?_); simp only [go_sem]; (repeat' first | apply CJ.mk | intro hc); all_goals try ((repeat' first | apply And.intro | intro hs) <;> (try simp only [go_sem, Bool.and_eq_false_iff] at hs) <;> omega)
 all_goals (cases a; cases b; simp_all)
noncomputable def a5K : CT := j7 (fun (x : c8 × c8) => c0c x.1 x.2)
@[go_sem] theorem c6Q (x0 x1 : List c7) : a5K [(true, [.sl false [.s [], .i .i64 0, .s []] (x0.map c7.cells)]), (true, [.sl false [.s [], .i .i64 0, .s []] (x1.map c7.cells)])] = some (True, [], .one (false, [.b (decide ((c8.mk x0) = (c8.mk x1)))])) := f7 _ (by rintro ⟨⟨_⟩, ⟨_⟩⟩ ⟨⟨_⟩, ⟨_⟩⟩ h; simp at h; simp_all) ((c8.mk x0), (c8.mk x1))
theorem b3f : OkC Tryz.prog 121 a5K := f8 _
end Go.Aw
