/- Stores and steps: sizes, copies, equalities. No condition. -/
import Derived.Test.YthlbadfickhkfaaGreatzfB0
import Derived.Test.YthlbadfickhkfaaGreatzfB2
namespace Go.Aw
open Go.Proofs
attribute [local irreducible] aft blk lpK retK AW A0l
set_option linter.unusedVariables false
set_option linter.unusedSimpArgs false
set_option maxRecDepth 100000
def a5h : ACode := q' ([b' 4 false]) (.seq (q' ([m' 6 0, n' 7 6, m' 8 1, n' 9 8, o' 10 (.bin .neq (.t 7) (.t 9))]) (.cond (.t 10) (q' ([b' 4 false]) .ret) .skip)) (.seq (q' ([z' 5
 0]) (.block 0 (.loop (.seq (q' ([m' 11 5, m' 12 0, n' 13 12, r' 14 11 13]) (.cond (.t 14) .skip (.exit 0))) (.seq (.block 1 (.seq (.reg true [m' 17 0, m' 18
 5, i' 19 1 17 18, e' 20 1 19, m' 21 1, m' 22 5, i' 23 1 21 22, e' 24 1 23, c' 25 96 [20, 24], o' 26 (.not (.t 25))]) (.cond (.t 26) (q' ([b' 4 false]) .ret)
 .skip))) (g' [m' 15 5, a' 16 15, m' 5 16])))))) (q' ([b' 4 true]) .ret)))
theorem b1N : cmp Tryz.prog Tryz.f130 = some a5h := by kernel_rfl
theorem b3p (a : List d6) (b : List d6) : A0l Tryz.prog 130 [(false, [.sl false [.sl false [.i .i64 0, .s []] []] (a.map (d6.cells false false))]), (false, [.sl false [.sl false [.i .i64 0, .s []] []] (b.map (d6.cells false false))])] [] (.one (false, [.b (decide (a = b))])) := by
 refine spec_of2 false false none Tryz.func130 b1N (rvs := [.t 4]) (hΓ := mkCtx_ok (deep := false) (l := [(96, [], a3V)]) ⟨b0k, trivial⟩) (h := ?_)
 intro hb hE
 simp only [go_sem] at hb
 simp only [a5h, x']
 (try refine A2V ?_); simp only [go_sem]; (repeat' first | apply CJ.mk | intro hc); all_goals try ((repeat' first | apply And.intro | intro hs) <;> (try simp only [go_sem, Bool.and_eq_false_iff] at hs) <;> omega)
 ·symm
  rw [decide_eq_false_iff_not]
  rintro rfl
  simp at hc
 have hl : a.length = b.length := by simpa [Int.ofNat_inj] using hc
 refine aw_loop2 false [] [0, 1] [] [] (fun i : {i : Nat // i ≤ a.length ∧ a.take i = b.take i} => [(5, slV (.i .i64 i.1))]) (fun i => []) (fun i => []) (fun i => a.length - i.1) (⟨0, by simp⟩) _ rfl ?_ ?_
 ·simp only [go_sem]
  all_goals first | omega | ((repeat' apply And.intro) <;> first | omega | rfl | skip)
 intro S0 hS0 i
 simp only [go_sem] at hS0
 obtain ⟨i, hi, ht⟩ := i
 (try refine A2V ?_); simp only [go_sem, hS0]; (repeat' first | apply CJ.mk | intro hc); all_goals try ((repeat' first | apply And.intro | intro hs) <;> (try simp only [go_sem, Bool.and_eq_false_iff] at hs) <;> omega)
 ·exact (decide_eq_false (w8 default (i := i) (by simpa using hc))).symm
 ·(refine lpK_n2 (⟨i + 1, by omega, s6 ht (by omega) (by omega) (d := default) (by simpa using hc)⟩) _ rfl ?_; simp only [go_sem, hS0]; first | done | ((repeat' apply And.intro) <;> first | omega | (refine w64 ?_ ?_ ?_ <;> omega) | rfl | skip))
 ·exact (decide_eq_true (l4 hl ht (by omega))).symm
 all_goals trace_state
noncomputable def a2J : CT := i6 (fun (x : (List d6) × (List d6)) => b3p x.1 x.2)
@[go_sem] theorem b8D (a b : List d6) : a2J [(false, [.sl false [.sl false [.i .i64 0, .s []] []] (a.map (d6.cells false false))]), (false, [.sl false [.sl false [.i .i64 0, .s []] []] (b.map (d6.cells false false))])] = some (True, [], .one (false, [.b (decide (a = b))])) := f7 _ (by rintro ⟨_, _⟩ ⟨_, _⟩ h; simp at h; simp_all) (a, b)
theorem a8T : OkC Tryz.prog 130 a2J := f8 _
def a6E : ACode := q' ([o' 2 (.box 2 (.t 0)), o' 3 (.box 2 (.t 1)), b' 4 false]) (.seq (q' ([f' 5 0 2, l' 6 5, f' 7 0 3, l' 8 7, o' 9 (.bin .neq (.t 6) (.t 8))]) (.cond (.t 9) (q'
 ([b' 4 false]) .ret) .skip)) (.seq (q' ([f' 10 1 2, l' 11 10, f' 12 1 3, l' 13 12, c' 14 130 [11, 13], o' 15 (.not (.t 14))]) (.cond (.t 15) (q' ([b' 4
 false]) .ret) .skip)) (q' ([b' 4 true]) .ret)))
theorem b2W : cmp Tryz.prog Tryz.f57 = some a6E := by kernel_rfl
theorem b4C (a : d8) (b : d8) : A0l Tryz.prog 57 [(true, [.i .i64 a.Arity, .sl false [.sl false [.i .i64 0, .s []] []] (a.Rows.map (d6.cells false false))]), (true, [.i .i64 b.Arity, .sl false [.sl false [.i .i64 0, .s []] []] (b.Rows.map (d6.cells false false))])] [] (.one (false, [.b (decide (a = b))])) := by
 refine spec_of2 false false none Tryz.func57 b2W (rvs := [.t 4]) (hΓ := mkCtx_ok (deep := false) (l := [(130, [], a2J)]) ⟨a8T, trivial⟩) (h := ?_)
 intro hb hE
 simp only [go_sem] at hb
 simp only [a6E, x']
 (try refine A2V ?_); simp only [go_sem]; (repeat' first | apply CJ.mk | intro hc); all_goals try ((repeat' first | apply And.intro | intro hs) <;> (try simp only [go_sem, Bool.and_eq_false_iff] at hs) <;> omega)
 all_goals (cases a; cases b; simp_all)
noncomputable def a3U : CT := i6 (fun (x : d8 × d8) => b4C x.1 x.2)
@[go_sem] theorem b9k (x0 : Int) (x1 : List d6) (x2 : Int) (x3 : List d6) : a3U [(true, [.i .i64 x0, .sl false [.sl false [.i .i64 0, .s []] []] (x1.map (d6.cells false false))]), (true, [.i .i64 x2, .sl false [.sl false [.i .i64 0, .s []] []] (x3.map (d6.cells false false))])] = some (True, [], .one (false, [.b (decide ((d8.mk x0 x1) = (d8.mk x2 x3)))])) := f7 _ (by rintro ⟨⟨_, _⟩, ⟨_, _⟩⟩ ⟨⟨_, _⟩, ⟨_, _⟩⟩ h; simp at h; simp_all) ((d8.mk x0 x1), (d8.mk x2 x3))
theorem b0j : OkC Tryz.prog 57 a3U := f8 _
def a4r : ACode := q' ([o' 2 (.box 3 (.t 0)), o' 3 (.box 3 (.t 1)), b' 4 false]) (.seq (q' ([f' 5 0 2, l' 6 5, f' 7 0 3, l' 8 7, o' 9 (.bin .neq (.t 6) (.t 8))]) (.cond (.t 9) (q'
 ([b' 4 false]) .ret) .skip)) (.seq (q' ([f' 10 1 2, e' 11 2 10, f' 12 1 3, e' 13 2 12, c' 14 57 [11, 13], o' 15 (.not (.t 14))]) (.cond (.t 15) (q' ([b' 4
 false]) .ret) .skip)) (q' ([b' 4 true]) .ret)))
theorem b0v : cmp Tryz.prog Tryz.f143 = some a4r := by kernel_rfl
theorem b2q (a : d3) (b : d3) : A0l Tryz.prog 143 [(true, [.s a.Name, .i .i64 a.Rel.Arity, .sl false [.sl false [.i .i64 0, .s []] []] (a.Rel.Rows.map (d6.cells false false))]), (true, [.s b.Name, .i .i64 b.Rel.Arity, .sl false [.sl false [.i .i64 0, .s []] []] (b.Rel.Rows.map (d6.cells false false))])] [] (.one (false, [.b (decide (a = b))])) := by
 refine spec_of2 false false none Tryz.func143 b0v (rvs := [.t 4]) (hΓ := mkCtx_ok (deep := false) (l := [(57, [], a3U)]) ⟨b0j, trivial⟩) (h := ?_)
 intro hb hE
 simp only [go_sem] at hb
 simp only [a4r, x']
 (try refine A2V ?_); simp only [go_sem]; (repeat' first | apply CJ.mk | intro hc); all_goals try ((repeat' first | apply And.intro | intro hs) <;> (try simp only [go_sem, Bool.and_eq_false_iff] at hs) <;> omega)
 all_goals (cases a; cases b; simp_all)
noncomputable def a1L : CT := i6 (fun (x : d3 × d3) => b2q x.1 x.2)
@[go_sem] theorem b7r (x0 : List UInt8) (x1 : Int) (x2 : List d6) (x3 : List UInt8) (x4 : Int) (x5 : List d6) : a1L [(true, [.s x0, .i .i64 x1, .sl false [.sl false [.i .i64 0, .s []] []] (x2.map (d6.cells false false))]), (true, [.s x3, .i .i64 x4, .sl false [.sl false [.i .i64 0, .s []] []] (x5.map (d6.cells false false))])] = some (True, [], .one (false, [.b (decide ((d3.mk x0 (d8.mk x1 x2)) = (d3.mk x3 (d8.mk x4 x5))))])) := f7 _ (by rintro ⟨⟨_, ⟨_, _⟩⟩, ⟨_, ⟨_, _⟩⟩⟩ ⟨⟨_, ⟨_, _⟩⟩, ⟨_, ⟨_, _⟩⟩⟩ h; simp at h; simp_all) ((d3.mk x0 (d8.mk x1 x2)), (d3.mk x3 (d8.mk x4 x5)))
theorem a7P : OkC Tryz.prog 143 a1L := f8 _
def a3b : ACode := q' ([b' 4 false]) (.seq (q' ([m' 6 0, n' 7 6, m' 8 1, n' 9 8, o' 10 (.bin .neq (.t 7) (.t 9))]) (.cond (.t 10) (q' ([b' 4 false]) .ret) .skip)) (.seq (q' ([z' 5
 0]) (.block 0 (.loop (.seq (q' ([m' 11 5, m' 12 0, n' 13 12, r' 14 11 13]) (.cond (.t 14) .skip (.exit 0))) (.seq (.block 1 (.seq (.reg true [m' 17 0, m' 18
 5, i' 19 3 17 18, e' 20 3 19, m' 21 1, m' 22 5, i' 23 3 21 22, e' 24 3 23, c' 25 143 [20, 24], o' 26 (.not (.t 25))]) (.cond (.t 26) (q' ([b' 4 false]) .ret)
 .skip))) (g' [m' 15 5, a' 16 15, m' 5 16])))))) (q' ([b' 4 true]) .ret)))
theorem a9m : cmp Tryz.prog Tryz.f68 = some a3b := by kernel_rfl
theorem b0S (a : List d3) (b : List d3) : A0l Tryz.prog 68 [(false, [.sl false [.s [], .i .i64 0, .sl false [.sl false [.i .i64 0, .s []] []] []] (a.map (d3.cells false false))]), (false, [.sl false [.s [], .i .i64 0, .sl false [.sl false [.i .i64 0, .s []] []] []] (b.map (d3.cells false false))])] [] (.one (false, [.b (decide (a = b))])) := by
 refine spec_of2 false false none Tryz.func68 a9m (rvs := [.t 4]) (hΓ := mkCtx_ok (deep := false) (l := [(143, [], a1L)]) ⟨a7P, trivial⟩) (h := ?_)
 intro hb hE
 simp only [go_sem] at hb
 simp only [a3b, x']
 (try refine A2V ?_); simp only [go_sem]; (repeat' first | apply CJ.mk | intro hc); all_goals try ((repeat' first | apply And.intro | intro hs) <;> (try simp only [go_sem, Bool.and_eq_false_iff] at hs) <;> omega)
 ·symm
  rw [decide_eq_false_iff_not]
  rintro rfl
  simp at hc
 have hl : a.length = b.length := by simpa [Int.ofNat_inj] using hc
 refine aw_loop2 false [] [0, 1] [] [] (fun i : {i : Nat // i ≤ a.length ∧ a.take i = b.take i} => [(5, slV (.i .i64 i.1))]) (fun i => []) (fun i => []) (fun i => a.length - i.1) (⟨0, by simp⟩) _ rfl ?_ ?_
 ·simp only [go_sem]
  all_goals first | omega | ((repeat' apply And.intro) <;> first | omega | rfl | skip)
 intro S0 hS0 i
 simp only [go_sem] at hS0
 obtain ⟨i, hi, ht⟩ := i
 (try refine A2V ?_); simp only [go_sem, hS0]; (repeat' first | apply CJ.mk | intro hc); all_goals try ((repeat' first | apply And.intro | intro hs) <;> (try simp only [go_sem, Bool.and_eq_false_iff] at hs) <;> omega)
 ·exact (decide_eq_false (w8 default (i := i) (by simpa using hc))).symm
 ·(refine lpK_n2 (⟨i + 1, by omega, s6 ht (by omega) (by omega) (d := default) (by simpa using hc)⟩) _ rfl ?_; simp only [go_sem, hS0]; first | done | ((repeat' apply And.intro) <;> first | omega | (refine w64 ?_ ?_ ?_ <;> omega) | rfl | skip))
 ·exact (decide_eq_true (l4 hl ht (by omega))).symm
 all_goals trace_state
noncomputable def a0X : CT := i6 (fun (x : (List d3) × (List d3)) => b0S x.1 x.2)
@[go_sem] theorem b6C (a b : List d3) : a0X [(false, [.sl false [.s [], .i .i64 0, .sl false [.sl false [.i .i64 0, .s []] []] []] (a.map (d3.cells false false))]), (false, [.sl false [.s [], .i .i64 0, .sl false [.sl false [.i .i64 0, .s []] []] []] (b.map (d3.cells false false))])] = some (True, [], .one (false, [.b (decide (a = b))])) := f7 _ (by rintro ⟨_, _⟩ ⟨_, _⟩ h; simp at h; simp_all) (a, b)
theorem a6V : OkC Tryz.prog 68 a0X := f8 _
def a4t : ACode := q' ([o' 2 (.box 1 (.t 0)), o' 3 (.box 1 (.t 1)), b' 4 false]) (.seq (q' ([f' 5 0 2, l' 6 5, f' 7 0 3, l' 8 7, c' 9 68 [6, 8], o' 10 (.not (.t 9))]) (.cond (.t
 10) (q' ([b' 4 false]) .ret) .skip)) (q' ([b' 4 true]) .ret))
theorem b0x : cmp Tryz.prog Tryz.f16 = some a4t := by kernel_rfl
theorem b2s (a : d7) (b : d7) : A0l Tryz.prog 16 [(true, [.sl false [.s [], .i .i64 0, .sl false [.sl false [.i .i64 0, .s []] []] []] (a.Rels.map (d3.cells false false))]), (true, [.sl false [.s [], .i .i64 0, .sl false [.sl false [.i .i64 0, .s []] []] []] (b.Rels.map (d3.cells false false))])] [] (.one (false, [.b (decide (a = b))])) := by
 refine spec_of2 false false none Tryz.func16 b0x (rvs := [.t 4]) (hΓ := mkCtx_ok (deep := false) (l := [(68, [], a0X)]) ⟨a6V, trivial⟩) (h := ?_)
 intro hb hE
 simp only [go_sem] at hb
 simp only [a4t, x']
 (try refine A2V ?_); simp only [go_sem]; (repeat' first | apply CJ.mk | intro hc); all_goals try ((repeat' first | apply And.intro | intro hs) <;> (try simp only [go_sem, Bool.and_eq_false_iff] at hs) <;> omega)
 all_goals (cases a; cases b; simp_all)
noncomputable def a1N : CT := i6 (fun (x : d7 × d7) => b2s x.1 x.2)
@[go_sem] theorem b7t (x0 x1 : List d3) : a1N [(true, [.sl false [.s [], .i .i64 0, .sl false [.sl false [.i .i64 0, .s []] []] []] (x0.map (d3.cells false false))]), (true, [.sl false [.s [], .i .i64 0, .sl false [.sl false [.i .i64 0, .s []] []] []] (x1.map (d3.cells false false))])] = some (True, [], .one (false, [.b (decide ((d7.mk x0) = (d7.mk x1)))])) := f7 _ (by rintro ⟨⟨_⟩, ⟨_⟩⟩ ⟨⟨_⟩, ⟨_⟩⟩ h; simp at h; simp_all) ((d7.mk x0), (d7.mk x1))
theorem a7R : OkC Tryz.prog 16 a1N := f8 _
end Go.Aw
