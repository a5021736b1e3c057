/- Rows, relations, stores. No condition. -/
import Derived.Test.YthlbadfickhkfaaGreatzdG3
import Derived.Test.YthlbadfickhkfaaGreatzdG8
import Derived.Test.YthlbadfickhkfaaGreathBwtzd
import Derived.Test.YthlbadfickhkfaaGreathMx1zd
namespace Go.Aw
open Go.Proofs
attribute [local irreducible] aft blk lpK retK AW A0l
set_option linter.unusedVariables false
set_option linter.unusedSimpArgs false
set_option maxRecDepth 100000
def a6F (r : GRow) : Bool := decide ((r.V.length : Int) ≤ 6) && r.V.all k8
def a7q : ACode := q' ([o' 1 (.box 1 (.t 0)), b' 2 false]) (.seq (q' ([f' 5 0 1, l' 6 5, n' 7 6, o' 8 (.bin .gtr (.t 7) (k' 6))]) (.cond (.t 8) (q' ([b' 2 false]) .ret) .skip))
 (.seq (q' ([f' 9 0 1, l' 10 9, n' 11 10, z' 12 0]) (.block 0 (.loop (q' ([r' 13 12 11]) (.seq (.cond (.t 13) .skip (.exit 0)) (.seq (.block 1 (q' ([i' 14 2 10
 12, e' 15 2 14, w' 4 [.i .i64, .s], s' 2 4 15]) (q' ([e' 16 2 4, c' 17 242 [16], o' 18 (.not (.t 17))]) (.cond (.t 18) (q' ([b' 2 false]) .ret) .skip)))) (g'
 [a' 19 12, m' 12 19]))))))) (q' ([b' 2 true]) .ret)))
theorem b4U : cmp Tryz.prog Tryz.f159 = some a7q := by kernel_rfl
theorem b6W (r : GRow) : A0l Tryz.prog 159 [(true, [.sl false [.i .i64 0, .s []] (r.V.map GValue.cells)])] [] (.one (false, [.b (a6F r)])) := by
 refine spec_of2 false false none Tryz.func159 b4U (rvs := [.t 2]) (hΓ := mkCtx_ok (deep := false) (l := [(242, [], y7)]) ⟨a2M, trivial⟩) (h := ?_)
 intro hb hE
 simp only [go_sem] at hb
 simp only [a7q, x']
 (try refine A2V ?_); simp only [go_sem]; (repeat' first | apply CJ.mk | intro hc); all_goals try ((repeat' first | apply And.intro | intro hs) <;> (try simp only [go_sem, Bool.and_eq_false_iff] at hs) <;> omega)
 ·rw [a6F, decide_eq_false (by omega)]; rfl
 have h6 : ((r.V.length : Int)) ≤ 6 := by omega
 refine aw_loop2 false [] [10, 11] [] [] (fun i : {i : Nat // i ≤ r.V.length ∧ (r.V.take i).all k8 = true} => [(12, slV (.i .i64 i.1))]) (fun i => []) (fun i => []) (fun i => r.V.length - i.1) (⟨0, by simp⟩) _ rfl ?_ ?_
 ·simp only [go_sem]
  all_goals first | omega | ((repeat' apply And.intro) <;> first | omega | rfl | skip)
 intro S0 hS0 i
 simp only [go_sem] at hS0
 obtain ⟨i, hi, ha⟩ := i
 (try refine A2V ?_); simp only [go_sem, hS0]; (repeat' first | apply CJ.mk | intro hc); all_goals try ((repeat' first | apply And.intro | intro hs) <;> (try simp only [go_sem, Bool.and_eq_false_iff] at hs) <;> omega)
 ·rw [a6F, all_false (d := default) (i := i) (by omega) hc, Bool.and_false]
 ·(refine lpK_n2 (⟨i + 1, by omega, a3E default (by omega) ha hc⟩) _ rfl ?_; simp only [go_sem, hS0]; first | done | ((repeat' apply And.intro) <;> first | omega | (refine w64 ?_ ?_ ?_ <;> omega) | rfl | skip))
 ·rw [c6 (by omega)] at ha
  rw [a6F, ha, decide_eq_true h6]; rfl
noncomputable def a4y : CT := c8 (fun (x : GRow) => b6W x)
@[go_sem] theorem c3c (r_V : List GValue) : a4y [(true, [.sl false [.i .i64 0, .s []] (r_V.map GValue.cells)])] = some (True, [], .one (false, [.b (a6F (GRow.mk r_V))])) := c4 _ (by rintro ⟨_⟩ ⟨_⟩ h; simp at h; simp_all) (GRow.mk r_V)
theorem b1t : OkC Tryz.prog 159 a4y := c5 _
def a4J : ACode := q' ([o' 1 (.box 2 (.t 0)), b' 2 false]) (q' ([e' 3 2 1, c' 4 245 [3], o' 5 (.not (.t 4)), m' 2 5]) .ret)
theorem b1y : cmp Tryz.prog Tryz.f244 = some a4J := by kernel_rfl
theorem b3K (v : GValue) : A0l Tryz.prog 244 [(true, [.i .i64 v.N, .s v.S])] [] (.one (false, [.b (!k8 v)])) := by
 refine spec_of2 false false none Tryz.func244 b1y (rvs := [.t 2]) (hΓ := mkCtx_ok (deep := false) (l := [(245, [], v9)]) ⟨a2F, trivial⟩) (h := ?_)
 intro hb hE
 simp only [go_sem] at hb
 simp only [a4J, x']
 (try refine A2V ?_); simp only [go_sem]; (repeat' first | apply CJ.mk | intro hc); all_goals try ((repeat' first | apply And.intro | intro hs) <;> (try simp only [go_sem, Bool.and_eq_false_iff] at hs) <;> omega)
noncomputable def a1O : CT := c8 (fun (x : GValue) => b3K x)
@[go_sem] theorem c0t (v_N : Int) (v_S : List UInt8) : a1O [(true, [.i .i64 v_N, .s v_S])] = some (True, [], .one (false, [.b (!k8 (GValue.mk v_N v_S))])) := c4 _ (by rintro ⟨_, _⟩ ⟨_, _⟩ h; simp at h; simp_all) (GValue.mk v_N v_S)
theorem a8D : OkC Tryz.prog 244 a1O := c5 _
def a9M : ACode := q' ([z' 4 0]) (.seq (q' ([m' 6 0, n' 7 6, z' 8 0]) (.block 0 (.loop (q' ([r' 9 8 7]) (.seq (.cond (.t 9) .skip (.exit 0)) (.seq (.block 1 (q' ([m' 10 8, m' 5
 10]) (q' ([m' 11 1, m' 12 0, m' 13 5, i' 14 2 12 13, e' 15 2 14, o' 16 (.callv (.t 11) [.t 15])]) (.cond (.t 16) (q' ([m' 17 5, m' 4 17]) .ret) .skip)))) (g'
 [a' 18 8, m' 8 18]))))))) (q' ([o' 4 (.mov (.k (.v false [.c (.i .i64 (-1))])))]) .ret))
theorem b5S : cmp Tryz.prog Tryz.f246 = some a9M := by kernel_rfl
theorem c0b (l : List GValue) : A0l Tryz.prog 246 [(false, [.sl false [.i .i64 0, .s []] (l.map GValue.cells)]), (false, [.f 244 []])] [] (.one (false, [.i .i64 (t6 (fun y => !k8 y) l)])) := by
 refine spec_of2 false false none Tryz.func246 b5S (rvs := [.t 4]) (hΓ := mkCtx_ok (deep := false) (l := [(244, [], a1O)]) ⟨a8D, trivial⟩) (h := ?_)
 intro hb hE
 simp only [go_sem] at hb
 simp only [a9M, x']
 (try refine A2V ?_); simp only [go_sem]; (repeat' first | apply CJ.mk | intro hc); all_goals try ((repeat' first | apply And.intro | intro hs) <;> (try simp only [go_sem, Bool.and_eq_false_iff] at hs) <;> omega)
 refine aw_loop2 false [] [0, 1, 7] [] [] (fun i : {i : Nat // i ≤ l.length ∧ (l.take i).any (fun y => !k8 y) = false} => [(8, slV (.i .i64 i.1))]) (fun i => []) (fun i => []) (fun i => l.length - i.1) (⟨0, by simp⟩) _ rfl ?_ ?_
 ·simp only [go_sem]
  all_goals first | omega | ((repeat' apply And.intro) <;> first | omega | rfl | skip)
 intro S0 hS0 i
 simp only [go_sem] at hS0
 obtain ⟨i, hi, ha⟩ := i
 (try refine A2V ?_); simp only [go_sem, hS0]; (repeat' first | apply CJ.mk | intro hc); all_goals try ((repeat' first | apply And.intro | intro hs) <;> (try simp only [go_sem, Bool.and_eq_false_iff] at hs) <;> omega)
 ·exact (j8 (p := fun y => !k8 y) (d := default) (by omega) ha (by simpa [-List.getD_eq_getElem?_getD] using hc)).symm
 ·(refine lpK_n2 (⟨i + 1, by omega, f8 (p := fun y => !k8 y) default (by omega) ha (by simpa [-List.getD_eq_getElem?_getD] using hc)⟩) _ rfl ?_; simp only [go_sem, hS0]; first | done | ((repeat' apply And.intro) <;> first | omega | (refine w64 ?_ ?_ ?_ <;> omega) | rfl | skip))
 ·exact (j7 (by rwa [c6 (by omega)] at ha)).symm
 all_goals trace_state
noncomputable def a7G : CT := c8 (fun (x : (List GValue)) => c0b x)
@[go_sem] theorem c4o (l : List GValue) : a7G [(false, [.sl false [.i .i64 0, .s []] (l.map GValue.cells)]), (false, [.f 244 []])] = some (True, [], .one (false, [.i .i64 (t6 (fun y => !k8 y) l)])) := c4 _ (by intro x y h; simp at h; simp_all) l
theorem b4I : OkC Tryz.prog 246 a7G := c5 _
def a9K : ACode := q' ([b' 4 false]) (q' ([m' 5 0, m' 6 1, c' 7 246 [5, 6], o' 8 (.bin .geq (.t 7) (k' 0)), m' 4 8]) .ret)
theorem b5Q : cmp Tryz.prog Tryz.f164 = some a9K := by kernel_rfl
theorem b9Z (l : List GValue) : A0l Tryz.prog 164 [(false, [.sl false [.i .i64 0, .s []] (l.map GValue.cells)]), (false, [.f 244 []])] [] (.one (false, [.b (l.any (fun y => !k8 y))])) := by
 refine spec_of2 false false none Tryz.func164 b5Q (rvs := [.t 4]) (hΓ := mkCtx_ok (deep := false) (l := [(246, [], a7G)]) ⟨b4I, trivial⟩) (h := ?_)
 intro hb hE
 simp only [go_sem] at hb
 simp only [a9K, x']
 (try refine A2V ?_); simp only [go_sem]; (repeat' first | apply CJ.mk | intro hc); all_goals try ((repeat' first | apply And.intro | intro hs) <;> (try simp only [go_sem, Bool.and_eq_false_iff] at hs) <;> omega)
 ·exact s7 _ _
noncomputable def a7E : CT := c8 (fun (x : (List GValue)) => b9Z x)
@[go_sem] theorem c4m (l : List GValue) : a7E [(false, [.sl false [.i .i64 0, .s []] (l.map GValue.cells)]), (false, [.f 244 []])] = some (True, [], .one (false, [.b (l.any (fun y => !k8 y))])) := c4 _ (by intro x y h; simp at h; simp_all) l
theorem b4G : OkC Tryz.prog 164 a7E := c5 _
def a7g : ACode := q' ([o' 1 (.box 1 (.t 0)), b' 2 false]) (q' ([f' 3 0 1, l' 4 3, n' 5 4, o' 6 (.bin .leq (.t 5) (k' 6)), m' 7 6, ⟨some 8, .fa 0 (.t 1), some (7, true)⟩, ⟨some 9,
 .ld false 1 (.t 8), some (7, true)⟩, ⟨some 10, .call 164 [.t 9, .k (.v false [.c (.f 244 [])])], some (7, true)⟩, ⟨some 11, .not (.t 10), some (7, true)⟩, o'
 12 (.pick (.t 7) (.t 11) (.k (.v false [.c (.b false)]))), m' 2 12]) .ret)
theorem b4K : cmp Tryz.prog Tryz.f162 = some a7g := by kernel_rfl
theorem b6M (r : GRow) : A0l Tryz.prog 162 [(true, [.sl false [.i .i64 0, .s []] (r.V.map GValue.cells)])] [] (.one (false, [.b (a6F r)])) := by
 refine spec_of2 false false none Tryz.func162 b4K (rvs := [.t 2]) (hΓ := mkCtx_ok (deep := false) (l := [(164, [], a7E)]) ⟨b4G, trivial⟩) (h := ?_)
 intro hb hE
 simp only [go_sem] at hb
 simp only [a7g, x']
 (try refine A2V ?_); simp only [go_sem]; (repeat' first | apply CJ.mk | intro hc); all_goals try ((repeat' first | apply And.intro | intro hs) <;> (try simp only [go_sem, Bool.and_eq_false_iff] at hs) <;> omega)
 all_goals rw [a6H, Bool.not_not, a6F]
noncomputable def a4o : CT := c8 (fun (x : GRow) => b6M x)
@[go_sem] theorem c2S (r_V : List GValue) : a4o [(true, [.sl false [.i .i64 0, .s []] (r_V.map GValue.cells)])] = some (True, [], .one (false, [.b (a6F (GRow.mk r_V))])) := c4 _ (by rintro ⟨_⟩ ⟨_⟩ h; simp at h; simp_all) (GRow.mk r_V)
theorem b1j : OkC Tryz.prog 162 a4o := c5 _
end Go.Aw
