/- Rows, relations, stores. No condition. -/
import Derived.Test.YthlbadfickhkfaaeaG3
import Derived.Test.YthlbadfickhkfaaeaG8
import Derived.Test.YthlbadfickhkfaaiBwtea
import Derived.Test.YthlbadfickhkfaaiMx1ea
namespace Go.Aw
open Go.Proofs
attribute [local irreducible] aft blk lpK retK AW A0l
set_option linter.unusedVariables false
set_option linter.unusedSimpArgs false
set_option maxRecDepth 100000
def u2 (r : c9) : Bool := decide ((r.V.length : Int) ≤ 6) && r.V.all j7
def a2y : ACode := q' ([o' 1 (.box 1 (.t 0)), b' 2 false]) (.seq (q' ([f' 5 0 1, l' 6 5, n' 7 6, o' 8 (.bin .gtr (.t 7) (k' 6))]) (.cond (.t 8) (q' ([b' 2 false]) .ret) .skip))
 (.seq (q' ([f' 9 0 1, l' 10 9, n' 11 10, z' 12 0]) (.block 0 (.loop (q' ([r' 13 12 11]) (.seq (.cond (.t 13) .skip (.exit 0)) (.seq (.block 1 (q' ([i' 14 2 10
 12, e' 15 2 14, w' 4 [.i .i64, .s], s' 2 4 15]) (q' ([e' 16 2 4, c' 17 73 [16], o' 18 (.not (.t 17))]) (.cond (.t 18) (q' ([b' 2 false]) .ret) .skip)))) (g'
 [a' 19 12, m' 12 19]))))))) (q' ([b' 2 true]) .ret)))
theorem a6E : cmp Try.prog Try.f38 = some a2y := by kernel_rfl
theorem a7J (r : c9) : A0l Try.prog 38 [(true, [.sl false [.i .i64 0, .s []] (r.V.map c6.cells)])] [] (.one (false, [.b (u2 r)])) := by
 refine spec_of2 false false none Try.func38 a6E (rvs := [.t 2]) (hΓ := mkCtx_ok (deep := false) (l := [(73, [], n8)]) ⟨q0, trivial⟩) (h := ?_)
 intro hb hE
 simp only [go_sem] at hb
 simp only [a2y, x']
 (try refine A2V ?_); simp only [go_sem]; (repeat' first | apply CJ.mk | intro hc); all_goals try ((repeat' first | apply And.intro | intro hs) <;> (try simp only [go_sem, Bool.and_eq_false_iff] at hs) <;> omega)
 ·rw [u2, decide_eq_false (by omega)]; rfl
 have h6 : ((r.V.length : Int)) ≤ 6 := by omega
 refine aw_loop2 false [] [10, 11] [] [] (fun i : {i : Nat // i ≤ r.V.length ∧ (r.V.take i).all j7 = true} => [(12, slV (.i .i64 i.1))]) (fun i => []) (fun i => []) (fun i => r.V.length - i.1) (⟨0, by simp⟩) _ rfl ?_ ?_
 ·simp only [go_sem]
  all_goals first | omega | ((repeat' apply And.intro) <;> first | omega | rfl | skip)
 intro S0 hS0 i
 simp only [go_sem] at hS0
 obtain ⟨i, hi, ha⟩ := i
 (try refine A2V ?_); simp only [go_sem, hS0]; (repeat' first | apply CJ.mk | intro hc); all_goals try ((repeat' first | apply And.intro | intro hs) <;> (try simp only [go_sem, Bool.and_eq_false_iff] at hs) <;> omega)
 ·rw [u2, all_false (d := default) (i := i) (by omega) hc, Bool.and_false]
 ·(refine lpK_n2 (⟨i + 1, by omega, b1k default (by omega) ha hc⟩) _ rfl ?_; simp only [go_sem, hS0]; first | done | ((repeat' apply And.intro) <;> first | omega | (refine w64 ?_ ?_ ?_ <;> omega) | rfl | skip))
 ·rw [a0D (by omega)] at ha
  rw [u2, ha, decide_eq_true h6]; rfl
noncomputable def a0T : CT := j9 (fun (x : c9) => a7J x)
@[go_sem] theorem b0S (x0 : List c6) : a0T [(true, [.sl false [.i .i64 0, .s []] (x0.map c6.cells)])] = some (True, [], .one (false, [.b (u2 (c9.mk x0))])) := f5 _ (by rintro ⟨_⟩ ⟨_⟩ h; simp at h; simp_all) (c9.mk x0)
theorem a4D : OkC Try.prog 38 a0T := f8 _
def a0Y : ACode := q' ([o' 1 (.box 2 (.t 0)), b' 2 false]) (q' ([e' 3 2 1, c' 4 45 [3], o' 5 (.not (.t 4)), m' 2 5]) .ret)
theorem a4E : cmp Try.prog Try.f67 = some a0Y := by kernel_rfl
theorem a5M (v : c6) : A0l Try.prog 67 [(true, [.i .i64 v.N, .s v.S])] [] (.one (false, [.b (!j7 v)])) := by
 refine spec_of2 false false none Try.func67 a4E (rvs := [.t 2]) (hΓ := mkCtx_ok (deep := false) (l := [(45, [], m8)]) ⟨o8, trivial⟩) (h := ?_)
 intro hb hE
 simp only [go_sem] at hb
 simp only [a0Y, x']
 (try refine A2V ?_); simp only [go_sem]; (repeat' first | apply CJ.mk | intro hc); all_goals try ((repeat' first | apply And.intro | intro hs) <;> (try simp only [go_sem, Bool.and_eq_false_iff] at hs) <;> omega)
noncomputable def w6 : CT := j9 (fun (x : c6) => a5M x)
@[go_sem] theorem a9k (x0 : Int) (x1 : List UInt8) : w6 [(true, [.i .i64 x0, .s x1])] = some (True, [], .one (false, [.b (!j7 (c6.mk x0 x1))])) := f5 _ (by rintro ⟨_, _⟩ ⟨_, _⟩ h; simp at h; simp_all) (c6.mk x0 x1)
theorem a2Z : OkC Try.prog 67 w6 := f8 _
def a6W : ACode := q' ([z' 4 0]) (.seq (q' ([m' 6 0, n' 7 6, z' 8 0]) (.block 0 (.loop (q' ([r' 9 8 7]) (.seq (.cond (.t 9) .skip (.exit 0)) (.seq (.block 1 (q' ([m' 10 8, m' 5
 10]) (q' ([m' 11 1, m' 12 0, m' 13 5, i' 14 2 12 13, e' 15 2 14, o' 16 (.callv (.t 11) [.t 15])]) (.cond (.t 16) (q' ([m' 17 5, m' 4 17]) .ret) .skip)))) (g'
 [a' 18 8, m' 8 18]))))))) (q' ([o' 4 (.mov (.k (.v false [.c (.i .i64 (-1))])))]) .ret))
theorem b0y : cmp Try.prog Try.f92 = some a6W := by kernel_rfl
theorem a9f (l : List c6) : A0l Try.prog 92 [(false, [.sl false [.i .i64 0, .s []] (l.map c6.cells)]), (false, [.f 67 []])] [] (.one (false, [.i .i64 (a3q (fun y => !j7 y) l)])) := by
 refine spec_of2 false false none Try.func92 b0y (rvs := [.t 4]) (hΓ := mkCtx_ok (deep := false) (l := [(67, [], w6)]) ⟨a2Z, trivial⟩) (h := ?_)
 intro hb hE
 simp only [go_sem] at hb
 simp only [a6W, x']
 (try refine A2V ?_); simp only [go_sem]; (repeat' first | apply CJ.mk | intro hc); all_goals try ((repeat' first | apply And.intro | intro hs) <;> (try simp only [go_sem, Bool.and_eq_false_iff] at hs) <;> omega)
 refine aw_loop2 false [] [0, 1, 7] [] [] (fun i : {i : Nat // i ≤ l.length ∧ (l.take i).any (fun y => !j7 y) = false} => [(8, slV (.i .i64 i.1))]) (fun i => []) (fun i => []) (fun i => l.length - i.1) (⟨0, by simp⟩) _ rfl ?_ ?_
 ·simp only [go_sem]
  all_goals first | omega | ((repeat' apply And.intro) <;> first | omega | rfl | skip)
 intro S0 hS0 i
 simp only [go_sem] at hS0
 obtain ⟨i, hi, ha⟩ := i
 (try refine A2V ?_); simp only [go_sem, hS0]; (repeat' first | apply CJ.mk | intro hc); all_goals try ((repeat' first | apply And.intro | intro hs) <;> (try simp only [go_sem, Bool.and_eq_false_iff] at hs) <;> omega)
 ·exact (a2a (p := fun y => !j7 y) (d := default) (by omega) ha (by simpa [-List.getD_eq_getElem?_getD] using hc)).symm
 ·(refine lpK_n2 (⟨i + 1, by omega, a5m (p := fun y => !j7 y) default (by omega) ha (by simpa [-List.getD_eq_getElem?_getD] using hc)⟩) _ rfl ?_; simp only [go_sem, hS0]; first | done | ((repeat' apply And.intro) <;> first | omega | (refine w64 ?_ ?_ ?_ <;> omega) | rfl | skip))
 ·exact (a0B (by rwa [a0D (by omega)] at ha)).symm
 all_goals trace_state
noncomputable def a2D : CT := j9 (fun (x : (List c6)) => a9f x)
@[go_sem] theorem b1K (l : List c6) : a2D [(false, [.sl false [.i .i64 0, .s []] (l.map c6.cells)]), (false, [.f 67 []])] = some (True, [], .one (false, [.i .i64 (a3q (fun y => !j7 y) l)])) := f5 _ (by intro x y h; simp at h; simp_all) l
theorem a6p : OkC Try.prog 92 a2D := f8 _
def a6V : ACode := q' ([b' 4 false]) (q' ([m' 5 0, m' 6 1, c' 7 92 [5, 6], o' 8 (.bin .geq (.t 7) (k' 0)), m' 4 8]) .ret)
theorem b0x : cmp Try.prog Try.f66 = some a6V := by kernel_rfl
theorem a9e (l : List c6) : A0l Try.prog 66 [(false, [.sl false [.i .i64 0, .s []] (l.map c6.cells)]), (false, [.f 67 []])] [] (.one (false, [.b (l.any (fun y => !j7 y))])) := by
 refine spec_of2 false false none Try.func66 b0x (rvs := [.t 4]) (hΓ := mkCtx_ok (deep := false) (l := [(92, [], a2D)]) ⟨a6p, trivial⟩) (h := ?_)
 intro hb hE
 simp only [go_sem] at hb
 simp only [a6V, x']
 (try refine A2V ?_); simp only [go_sem]; (repeat' first | apply CJ.mk | intro hc); all_goals try ((repeat' first | apply And.intro | intro hs) <;> (try simp only [go_sem, Bool.and_eq_false_iff] at hs) <;> omega)
 ·exact a8e _ _
noncomputable def a2C : CT := j9 (fun (x : (List c6)) => a9e x)
@[go_sem] theorem b1J (l : List c6) : a2C [(false, [.sl false [.i .i64 0, .s []] (l.map c6.cells)]), (false, [.f 67 []])] = some (True, [], .one (false, [.b (l.any (fun y => !j7 y))])) := f5 _ (by intro x y h; simp at h; simp_all) l
theorem a6o : OkC Try.prog 66 a2C := f8 _
def a2o : ACode := q' ([o' 1 (.box 1 (.t 0)), b' 2 false]) (q' ([f' 3 0 1, l' 4 3, n' 5 4, o' 6 (.bin .leq (.t 5) (k' 6)), m' 7 6, ⟨some 8, .fa 0 (.t 1), some (7, true)⟩, ⟨some 9,
 .ld false 1 (.t 8), some (7, true)⟩, ⟨some 10, .call 66 [.t 9, .k (.v false [.c (.f 67 [])])], some (7, true)⟩, ⟨some 11, .not (.t 10), some (7, true)⟩, o' 12
 (.pick (.t 7) (.t 11) (.k (.v false [.c (.b false)]))), m' 2 12]) .ret)
theorem a6u : cmp Try.prog Try.f31 = some a2o := by kernel_rfl
theorem a7y (r : c9) : A0l Try.prog 31 [(true, [.sl false [.i .i64 0, .s []] (r.V.map c6.cells)])] [] (.one (false, [.b (u2 r)])) := by
 refine spec_of2 false false none Try.func31 a6u (rvs := [.t 2]) (hΓ := mkCtx_ok (deep := false) (l := [(66, [], a2C)]) ⟨a6o, trivial⟩) (h := ?_)
 intro hb hE
 simp only [go_sem] at hb
 simp only [a2o, x']
 (try refine A2V ?_); simp only [go_sem]; (repeat' first | apply CJ.mk | intro hc); all_goals try ((repeat' first | apply And.intro | intro hs) <;> (try simp only [go_sem, Bool.and_eq_false_iff] at hs) <;> omega)
 all_goals rw [any_not, Bool.not_not, u2]
noncomputable def a0J : CT := j9 (fun (x : c9) => a7y x)
@[go_sem] theorem b0H (x0 : List c6) : a0J [(true, [.sl false [.i .i64 0, .s []] (x0.map c6.cells)])] = some (True, [], .one (false, [.b (u2 (c9.mk x0))])) := f5 _ (by rintro ⟨_⟩ ⟨_⟩ h; simp at h; simp_all) (c9.mk x0)
theorem a4t : OkC Try.prog 31 a0J := f8 _
end Go.Aw
