/- Rows, relations, stores. No condition. -/
import Derived.Test.YthlbadfickhkfaaeaG3
import Derived.Test.YthlbadfickhkfaaeaG8
import Derived.Test.YthlbadfickhkfaahBwtea
import Derived.Test.YthlbadfickhkfaahMx1ea
namespace Go.Aw
open Go.Proofs
attribute [local irreducible] aft blk lpK retK AW A0l
set_option linter.unusedVariables false
set_option linter.unusedSimpArgs false
set_option maxRecDepth 100000
def a2w (r : c9) : Bool := decide ((r.V.length : Int) ≤ 6) && r.V.all j6
def a2u : ACode := q' ([o' 1 (.box 1 (.t 0)), b' 2 false]) (.seq (q' ([f' 5 0 1, l' 6 5, n' 7 6, o' 8 (.bin .gtr (.t 7) (k' 6))]) (.cond (.t 8) (q' ([b' 2 false]) .ret) .skip))
 (.seq (q' ([f' 9 0 1, l' 10 9, n' 11 10, z' 12 0]) (.block 0 (.loop (q' ([r' 13 12 11]) (.seq (.cond (.t 13) .skip (.exit 0)) (.seq (.block 1 (q' ([i' 14 2 10
 12, e' 15 2 14, w' 4 [.i .i64, .s], s' 2 4 15]) (q' ([e' 16 2 4, c' 17 73 [16], o' 18 (.not (.t 17))]) (.cond (.t 18) (q' ([b' 2 false]) .ret) .skip)))) (g'
 [a' 19 12, m' 12 19]))))))) (q' ([b' 2 true]) .ret)))
theorem a6x : cmp Try.prog Try.f38 = some a2u := by kernel_rfl
theorem a7E (r : c9) : A0l Try.prog 38 [(true, [.sl false [.i .i64 0, .s []] (r.V.map c6.cells)])] [] (.one (false, [.b (a2w r)])) := by
 refine spec_of2 false false none Try.func38 a6x (rvs := [.t 2]) (hΓ := mkCtx_ok (deep := false) (l := [(73, [], n7)]) ⟨p9, trivial⟩) (h := ?_)
 intro hb hE
 simp only [go_sem] at hb
 simp only [a2u, x']
 (try refine A2V ?_); simp only [go_sem]; (repeat' first | apply CJ.mk | intro hc); all_goals try ((repeat' first | apply And.intro | intro hs) <;> (try simp only [go_sem, Bool.and_eq_false_iff] at hs) <;> omega)
 ·rw [a2w, decide_eq_false (by omega)]; rfl
 have h6 : ((r.V.length : Int)) ≤ 6 := by omega
 refine aw_loop2 false [] [10, 11] [] [] (fun i : {i : Nat // i ≤ r.V.length ∧ (r.V.take i).all j6 = true} => [(12, slV (.i .i64 i.1))]) (fun i => []) (fun i => []) (fun i => r.V.length - i.1) (⟨0, by simp⟩) _ rfl ?_ ?_
 ·simp only [go_sem]
  all_goals first | omega | ((repeat' apply And.intro) <;> first | omega | rfl | skip)
 intro S0 hS0 i
 simp only [go_sem] at hS0
 obtain ⟨i, hi, ha⟩ := i
 (try refine A2V ?_); simp only [go_sem, hS0]; (repeat' first | apply CJ.mk | intro hc); all_goals try ((repeat' first | apply And.intro | intro hs) <;> (try simp only [go_sem, Bool.and_eq_false_iff] at hs) <;> omega)
 ·rw [a2w, all_false (d := default) (i := i) (by omega) hc, Bool.and_false]
 ·(refine lpK_n2 (⟨i + 1, by omega, b1d default (by omega) ha hc⟩) _ rfl ?_; simp only [go_sem, hS0]; first | done | ((repeat' apply And.intro) <;> first | omega | (refine w64 ?_ ?_ ?_ <;> omega) | rfl | skip))
 ·rw [a1U (by omega)] at ha
  rw [a2w, ha, decide_eq_true h6]; rfl
noncomputable def a0P : CT := j8 (fun (x : c9) => a7E x)
@[go_sem] theorem b0K (x0 : List c6) : a0P [(true, [.sl false [.i .i64 0, .s []] (x0.map c6.cells)])] = some (True, [], .one (false, [.b (a2w (c9.mk x0))])) := f5 _ (by rintro ⟨_⟩ ⟨_⟩ h; simp at h; simp_all) (c9.mk x0)
theorem a4x : OkC Try.prog 38 a0P := f8 _
def a0U : ACode := q' ([o' 1 (.box 2 (.t 0)), b' 2 false]) (q' ([e' 3 2 1, c' 4 45 [3], o' 5 (.not (.t 4)), m' 2 5]) .ret)
theorem a4y : cmp Try.prog Try.f67 = some a0U := by kernel_rfl
theorem a5F (v : c6) : A0l Try.prog 67 [(true, [.i .i64 v.N, .s v.S])] [] (.one (false, [.b (!j6 v)])) := by
 refine spec_of2 false false none Try.func67 a4y (rvs := [.t 2]) (hΓ := mkCtx_ok (deep := false) (l := [(45, [], m7)]) ⟨o7, trivial⟩) (h := ?_)
 intro hb hE
 simp only [go_sem] at hb
 simp only [a0U, x']
 (try refine A2V ?_); simp only [go_sem]; (repeat' first | apply CJ.mk | intro hc); all_goals try ((repeat' first | apply And.intro | intro hs) <;> (try simp only [go_sem, Bool.and_eq_false_iff] at hs) <;> omega)
noncomputable def w3 : CT := j8 (fun (x : c6) => a5F x)
@[go_sem] theorem a9b (x0 : Int) (x1 : List UInt8) : w3 [(true, [.i .i64 x0, .s x1])] = some (True, [], .one (false, [.b (!j6 (c6.mk x0 x1))])) := f5 _ (by rintro ⟨_, _⟩ ⟨_, _⟩ h; simp at h; simp_all) (c6.mk x0 x1)
theorem a2V : OkC Try.prog 67 w3 := f8 _
def a6Q : ACode := q' ([z' 4 0]) (.seq (q' ([m' 6 0, n' 7 6, z' 8 0]) (.block 0 (.loop (q' ([r' 9 8 7]) (.seq (.cond (.t 9) .skip (.exit 0)) (.seq (.block 1 (q' ([m' 10 8, m' 5
 10]) (q' ([m' 11 1, m' 12 0, m' 13 5, i' 14 2 12 13, e' 15 2 14, o' 16 (.callv (.t 11) [.t 15])]) (.cond (.t 16) (q' ([m' 17 5, m' 4 17]) .ret) .skip)))) (g'
 [a' 18 8, m' 8 18]))))))) (q' ([o' 4 (.mov (.k (.v false [.c (.i .i64 (-1))])))]) .ret))
theorem b0p : cmp Try.prog Try.f92 = some a6Q := by kernel_rfl
theorem a8W (l : List c6) : A0l Try.prog 92 [(false, [.sl false [.i .i64 0, .s []] (l.map c6.cells)]), (false, [.f 67 []])] [] (.one (false, [.i .i64 (a4Q (fun y => !j6 y) l)])) := by
 refine spec_of2 false false none Try.func92 b0p (rvs := [.t 4]) (hΓ := mkCtx_ok (deep := false) (l := [(67, [], w3)]) ⟨a2V, trivial⟩) (h := ?_)
 intro hb hE
 simp only [go_sem] at hb
 simp only [a6Q, x']
 (try refine A2V ?_); simp only [go_sem]; (repeat' first | apply CJ.mk | intro hc); all_goals try ((repeat' first | apply And.intro | intro hs) <;> (try simp only [go_sem, Bool.and_eq_false_iff] at hs) <;> omega)
 refine aw_loop2 false [] [0, 1, 7] [] [] (fun i : {i : Nat // i ≤ l.length ∧ (l.take i).any (fun y => !j6 y) = false} => [(8, slV (.i .i64 i.1))]) (fun i => []) (fun i => []) (fun i => l.length - i.1) (⟨0, by simp⟩) _ rfl ?_ ?_
 ·simp only [go_sem]
  all_goals first | omega | ((repeat' apply And.intro) <;> first | omega | rfl | skip)
 intro S0 hS0 i
 simp only [go_sem] at hS0
 obtain ⟨i, hi, ha⟩ := i
 (try refine A2V ?_); simp only [go_sem, hS0]; (repeat' first | apply CJ.mk | intro hc); all_goals try ((repeat' first | apply And.intro | intro hs) <;> (try simp only [go_sem, Bool.and_eq_false_iff] at hs) <;> omega)
 ·exact (a3T (p := fun y => !j6 y) (d := default) (by omega) ha (by simpa [-List.getD_eq_getElem?_getD] using hc)).symm
 ·(refine lpK_n2 (⟨i + 1, by omega, a7R (p := fun y => !j6 y) default (by omega) ha (by simpa [-List.getD_eq_getElem?_getD] using hc)⟩) _ rfl ?_; simp only [go_sem, hS0]; first | done | ((repeat' apply And.intro) <;> first | omega | (refine w64 ?_ ?_ ?_ <;> omega) | rfl | skip))
 ·exact (a1Y (by rwa [a1U (by omega)] at ha)).symm
 all_goals trace_state
noncomputable def a2A : CT := j8 (fun (x : (List c6)) => a8W x)
@[go_sem] theorem b1C (l : List c6) : a2A [(false, [.sl false [.i .i64 0, .s []] (l.map c6.cells)]), (false, [.f 67 []])] = some (True, [], .one (false, [.i .i64 (a4Q (fun y => !j6 y) l)])) := f5 _ (by intro x y h; simp at h; simp_all) l
theorem a6i : OkC Try.prog 92 a2A := f8 _
def a6P : ACode := q' ([b' 4 false]) (q' ([m' 5 0, m' 6 1, c' 7 92 [5, 6], o' 8 (.bin .geq (.t 7) (k' 0)), m' 4 8]) .ret)
theorem b0o : cmp Try.prog Try.f66 = some a6P := by kernel_rfl
theorem a8V (l : List c6) : A0l Try.prog 66 [(false, [.sl false [.i .i64 0, .s []] (l.map c6.cells)]), (false, [.f 67 []])] [] (.one (false, [.b (l.any (fun y => !j6 y))])) := by
 refine spec_of2 false false none Try.func66 b0o (rvs := [.t 4]) (hΓ := mkCtx_ok (deep := false) (l := [(92, [], a2A)]) ⟨a6i, trivial⟩) (h := ?_)
 intro hb hE
 simp only [go_sem] at hb
 simp only [a6P, x']
 (try refine A2V ?_); simp only [go_sem]; (repeat' first | apply CJ.mk | intro hc); all_goals try ((repeat' first | apply And.intro | intro hs) <;> (try simp only [go_sem, Bool.and_eq_false_iff] at hs) <;> omega)
 ·exact b1s _ _
noncomputable def a2z : CT := j8 (fun (x : (List c6)) => a8V x)
@[go_sem] theorem b1B (l : List c6) : a2z [(false, [.sl false [.i .i64 0, .s []] (l.map c6.cells)]), (false, [.f 67 []])] = some (True, [], .one (false, [.b (l.any (fun y => !j6 y))])) := f5 _ (by intro x y h; simp at h; simp_all) l
theorem a6h : OkC Try.prog 66 a2z := f8 _
def a2k : ACode := q' ([o' 1 (.box 1 (.t 0)), b' 2 false]) (q' ([f' 3 0 1, l' 4 3, n' 5 4, o' 6 (.bin .leq (.t 5) (k' 6)), m' 7 6, ⟨some 8, .fa 0 (.t 1), some (7, true)⟩, ⟨some 9,
 .ld false 1 (.t 8), some (7, true)⟩, ⟨some 10, .call 66 [.t 9, .k (.v false [.c (.f 67 [])])], some (7, true)⟩, ⟨some 11, .not (.t 10), some (7, true)⟩, o' 12
 (.pick (.t 7) (.t 11) (.k (.v false [.c (.b false)]))), m' 2 12]) .ret)
theorem a6n : cmp Try.prog Try.f31 = some a2k := by kernel_rfl
theorem a7t (r : c9) : A0l Try.prog 31 [(true, [.sl false [.i .i64 0, .s []] (r.V.map c6.cells)])] [] (.one (false, [.b (a2w r)])) := by
 refine spec_of2 false false none Try.func31 a6n (rvs := [.t 2]) (hΓ := mkCtx_ok (deep := false) (l := [(66, [], a2z)]) ⟨a6h, trivial⟩) (h := ?_)
 intro hb hE
 simp only [go_sem] at hb
 simp only [a2k, x']
 (try refine A2V ?_); simp only [go_sem]; (repeat' first | apply CJ.mk | intro hc); all_goals try ((repeat' first | apply And.intro | intro hs) <;> (try simp only [go_sem, Bool.and_eq_false_iff] at hs) <;> omega)
 all_goals rw [any_not, Bool.not_not, a2w]
noncomputable def a0F : CT := j8 (fun (x : c9) => a7t x)
@[go_sem] theorem b0z (x0 : List c6) : a0F [(true, [.sl false [.i .i64 0, .s []] (x0.map c6.cells)])] = some (True, [], .one (false, [.b (a2w (c9.mk x0))])) := f5 _ (by rintro ⟨_⟩ ⟨_⟩ h; simp at h; simp_all) (c9.mk x0)
theorem a4n : OkC Try.prog 31 a0F := f8 _
end Go.Aw
