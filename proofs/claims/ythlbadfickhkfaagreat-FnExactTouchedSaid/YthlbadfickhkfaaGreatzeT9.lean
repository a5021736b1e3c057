/- The first rule with a variable that no literal binds. No condition. -/
import Derived.Test.YthlbadfickhkfaaGreatzeT8
namespace Go.Aw
open Go.Proofs
attribute [local irreducible] aft blk lpK retK AW A0l
set_option linter.unusedVariables false
set_option linter.unusedSimpArgs false
set_option maxRecDepth 100000
noncomputable def a3a (r : c4) : Bool := decide ((0 : Int) < (a5w r).length)
noncomputable def v5 (p : c6) : Int := bif j7 p then z7 a3a p.Rules else -2
def a1T : ACode := q' ([o' 1 (.box 4 (.t 0)), b' 2 false]) (q' ([e' 3 4 1, c' 4 118 [3], n' 5 4, o' 6 (.bin .gtr (.t 5) (k' 0)), m' 2 6]) .ret)
theorem a8a : cmp Tryz.prog Tryz.f151 = some a1T := by kernel_rfl
theorem a8X (r : c4) : A0l Tryz.prog 151 [(true, [.i .i64 r.Kind, .s r.Head.Name, .sl false [.s [], .i .i64 0, .s []] (r.Head.Args.map c5.cells), .sl false [.i .i64 0, .s [], .sl false [.s [], .i .i64 0, .s []] [], .i .i64 0, .s [], .i .i64 0, .s [], .s [], .i .i64 0, .s []] (r.Body.map (c8.cells false false))])] [] (.one (false, [.b (a3a r)])) := by
 refine spec_of2 false false none Tryz.func151 a8a (rvs := [.t 2]) (hΓ := mkCtx_ok (deep := false) (l := [(118, [], a0L)]) ⟨a7L, trivial⟩) (h := ?_)
 intro hb hE
 simp only [go_sem] at hb
 simp only [a1T, x']
 (try refine A2V ?_); simp only [go_sem]; (repeat' first | apply CJ.mk | intro hc); all_goals try ((repeat' first | apply And.intro | intro hs) <;> (try simp only [go_sem, Bool.and_eq_false_iff] at hs) <;> omega)
 all_goals (first | rfl | trace_state)
noncomputable def a0f : CT := i8 (fun (x : c4) => a8X x)
@[go_sem] theorem b8k (x0 : Int) (x1 : List UInt8) (x2 : List c5) (x3 : List c8) : a0f [(true, [.i .i64 x0, .s x1, .sl false [.s [], .i .i64 0, .s []] (x2.map c5.cells), .sl false [.i .i64 0, .s [], .sl false [.s [], .i .i64 0, .s []] [], .i .i64 0, .s [], .i .i64 0, .s [], .s [], .i .i64 0, .s []] (x3.map (c8.cells false false))])] = some (True, [], .one (false, [.b (a3a (c4.mk x0 (c9.mk x1 x2) x3))])) := f5 _ (by rintro ⟨_, ⟨_, _⟩, _⟩ ⟨_, ⟨_, _⟩, _⟩ h; simp at h; simp_all) (c4.mk x0 (c9.mk x1 x2) x3)
theorem a6g : OkC Tryz.prog 151 a0f := f7 _
theorem b7U (l : List c4) : A0l Tryz.prog 89 [(false, [.sl false [.i .i64 0, .s [], .sl false [.s [], .i .i64 0, .s []] [], .sl false [.i .i64 0, .s [], .sl false [.s [], .i .i64 0, .s []] [], .i .i64 0, .s [], .i .i64 0, .s [], .s [], .i .i64 0, .s []] []] (l.map (c4.cells false false))]), (false, [.f 151 []])] [] (.one (false, [.i .i64 (z7 (fun y => a3a y) l)])) := by
 refine spec_of2 false false none Tryz.func89 b4p (rvs := [.t 4]) (hΓ := mkCtx_ok (deep := false) (l := [(151, [], a0f)]) ⟨a6g, trivial⟩) (h := ?_)
 intro hb hE
 simp only [go_sem] at hb
 simp only [a8A, x']
 (try refine A2V ?_); simp only [go_sem]; (repeat' first | apply CJ.mk | intro hc); all_goals try ((repeat' first | apply And.intro | intro hs) <;> (try simp only [go_sem, Bool.and_eq_false_iff] at hs) <;> omega)
 refine aw_loop2 false [] [0, 1, 7] [] [] (fun i : {i : Nat // i ≤ l.length ∧ (l.take i).any (fun y => a3a y) = false} => [(8, slV (.i .i64 i.1))]) (fun i => []) (fun i => []) (fun i => l.length - i.1) (⟨0, by simp⟩) _ rfl ?_ ?_
 ·simp only [go_sem]
  all_goals first | omega | ((repeat' apply And.intro) <;> first | omega | rfl | skip)
 intro S0 hS0 i
 simp only [go_sem] at hS0
 obtain ⟨i, hi, ha⟩ := i
 (try refine A2V ?_); simp only [go_sem, hS0]; (repeat' first | apply CJ.mk | intro hc); all_goals try ((repeat' first | apply And.intro | intro hs) <;> (try simp only [go_sem, Bool.and_eq_false_iff] at hs) <;> omega)
 ·exact (o9 (p := fun y => a3a y) (d := default) (by omega) ha (by simpa [-List.getD_eq_getElem?_getD] using hc)).symm
 ·(refine lpK_n2 (⟨i + 1, by omega, l3 (p := fun y => a3a y) default (by omega) ha (by simpa [-List.getD_eq_getElem?_getD] using hc)⟩) _ rfl ?_; simp only [go_sem, hS0]; first | done | ((repeat' apply And.intro) <;> first | omega | (refine w64 ?_ ?_ ?_ <;> omega) | rfl | skip))
 ·exact (o8 (by rwa [f9 (by omega)] at ha)).symm
 all_goals trace_state
noncomputable def a5g : CT := i8 (fun (x : (List c4)) => b7U x)
@[go_sem] theorem c4f (l : List c4) : a5g [(false, [.sl false [.i .i64 0, .s [], .sl false [.s [], .i .i64 0, .s []] [], .sl false [.i .i64 0, .s [], .sl false [.s [], .i .i64 0, .s []] [], .i .i64 0, .s [], .i .i64 0, .s [], .s [], .i .i64 0, .s []] []] (l.map (c4.cells false false))]), (false, [.f 151 []])] = some (True, [], .one (false, [.i .i64 (z7 (fun y => a3a y) l)])) := f5 _ (by intro x y h; simp at h; simp_all) l
theorem b2B : OkC Tryz.prog 89 a5g := f7 _
def a3g : ACode := q' ([o' 1 (.box 2 (.t 0)), z' 2 0]) (.seq (q' ([e' 3 2 1, c' 4 150 [3], o' 5 (.not (.t 4))]) (.cond (.t 5) (q' ([o' 2 (.mov (.k (.v false [.c (.i .i64
 (-2))])))]) .ret) .skip)) (q' ([f' 6 1 1, l' 7 6, o' 8 (.call 89 [.t 7, .k (.v false [.c (.f 151 [])])]), m' 2 8]) .ret))
theorem a9X : cmp Tryz.prog Tryz.f87 = some a3g := by kernel_rfl
theorem b1H (p : c6) : A0l Tryz.prog 87 [(true, [.sl false [.i .i64 0, .s [], .i .i64 0] (p.Decls.map c7.cells), .sl false [.i .i64 0, .s [], .sl false [.s [], .i .i64 0, .s []] [], .sl false [.i .i64 0, .s [], .sl false [.s [], .i .i64 0, .s []] [], .i .i64 0, .s [], .i .i64 0, .s [], .s [], .i .i64 0, .s []] []] (p.Rules.map (c4.cells false false))])] [] (.one (false, [.i .i64 (v5 p)])) := by
 refine spec_of2 false false none Tryz.func87 a9X (rvs := [.t 2]) (hΓ := mkCtx_ok (deep := false) (l := [(150, [], w7), (89, [], a5g)]) ⟨a2b, b2B, trivial⟩) (h := ?_)
 intro hb hE
 simp only [go_sem] at hb
 simp only [a3g, x']
 (try refine A2V ?_); simp only [go_sem]; (repeat' first | apply CJ.mk | intro hc); all_goals try ((repeat' first | apply And.intro | intro hs) <;> (try simp only [go_sem, Bool.and_eq_false_iff] at hs) <;> omega)
 all_goals (have h9 : j7 p = _ := hc; rw [v5, h9]; first | rfl | trace_state)
noncomputable def a0K : CT := i8 (fun (x : c6) => b1H x)
@[go_sem] theorem b9M (x0 : List c7) (x1 : List c4) : a0K [(true, [.sl false [.i .i64 0, .s [], .i .i64 0] (x0.map c7.cells), .sl false [.i .i64 0, .s [], .sl false [.s [], .i .i64 0, .s []] [], .sl false [.i .i64 0, .s [], .sl false [.s [], .i .i64 0, .s []] [], .i .i64 0, .s [], .i .i64 0, .s [], .s [], .i .i64 0, .s []] []] (x1.map (c4.cells false false))])] = some (True, [], .one (false, [.i .i64 (v5 (c6.mk x0 x1))])) := f5 _ (by rintro ⟨_, _⟩ ⟨_, _⟩ h; simp at h; simp_all) (c6.mk x0 x1)
theorem a7K : OkC Tryz.prog 87 a0K := f7 _
def a3u : ACode := q' ([o' 1 (.box 2 (.t 0)), z' 2 0]) (.seq (q' ([e' 4 2 1, c' 5 134 [4], o' 6 (.not (.t 5))]) (.cond (.t 6) (q' ([o' 2 (.mov (.k (.v false [.c (.i .i64
 (-2))])))]) .ret) .skip)) (.seq (q' ([f' 7 1 1, l' 8 7, n' 9 8, z' 10 0]) (.block 0 (.loop (q' ([r' 11 10 9]) (.seq (.cond (.t 11) .skip (.exit 0)) (.seq
 (.block 1 (q' ([m' 12 10, m' 3 12]) (q' ([f' 13 1 1, l' 14 13, m' 15 3, i' 16 4 14 15, e' 17 4 16, c' 18 113 [17], n' 19 18, o' 20 (.bin .gtr (.t 19) (k'
 0))]) (.cond (.t 20) (q' ([m' 21 3, m' 2 21]) .ret) .skip)))) (g' [a' 22 10, m' 10 22]))))))) (q' ([o' 2 (.mov (.k (.v false [.c (.i .i64 (-1))])))]) .ret)))
theorem b0l : cmp Tryz.prog Tryz.f86 = some a3u := by kernel_rfl
theorem b1V (p : c6) : A0l Tryz.prog 86 [(true, [.sl false [.i .i64 0, .s [], .i .i64 0] (p.Decls.map c7.cells), .sl false [.i .i64 0, .s [], .sl false [.s [], .i .i64 0, .s []] [], .sl false [.i .i64 0, .s [], .sl false [.s [], .i .i64 0, .s []] [], .i .i64 0, .s [], .i .i64 0, .s [], .s [], .i .i64 0, .s []] []] (p.Rules.map (c4.cells false false))])] [] (.one (false, [.i .i64 (v5 p)])) := by
 refine spec_of2 false false none Tryz.func86 b0l (rvs := [.t 2]) (hΓ := mkCtx_ok (deep := false) (l := [(134, [], y3), (113, [], a0X)]) ⟨a2d, a7X, trivial⟩) (h := ?_)
 intro hb hE
 simp only [go_sem] at hb
 simp only [a3u, x']
 (try refine A2V ?_); simp only [go_sem]; (repeat' first | apply CJ.mk | intro hc); all_goals try ((repeat' first | apply And.intro | intro hs) <;> (try simp only [go_sem, Bool.and_eq_false_iff] at hs) <;> omega)
 ·rw [v5, hc]; rfl
 have hB : j7 p = true := hc
 clear hc
 refine aw_loop2 false [] [1, 9] [2] [] (fun i : {i : Nat // i ≤ p.Rules.length ∧ (p.Rules.take i).any a3a = false} => [(10, slV (.i .i64 i.1))]) (fun i => []) (fun i => []) (fun i => p.Rules.length - i.1) (⟨0, by simp⟩) _ rfl ?_ ?_
 ·simp only [go_sem]
  all_goals first | omega | ((repeat' apply And.intro) <;> first | omega | rfl | skip)
 intro S0 hS0 i
 simp only [go_sem] at hS0
 obtain ⟨i, hi, ha⟩ := i
 (try refine A2V ?_); simp only [go_sem, hS0]; (repeat' first | apply CJ.mk | intro hc); all_goals try ((repeat' first | apply And.intro | intro hs) <;> (try simp only [go_sem, Bool.and_eq_false_iff] at hs) <;> omega)
 ·rw [v5, hB, cond_true, o9 (p := a3a) (d := default) (i := i) (by omega) ha (decide_eq_true hc)]
 ·(refine lpK_n2 (⟨i + 1, by omega, l3 (p := a3a) default (by omega) ha (decide_eq_false hc)⟩) _ rfl ?_; simp only [go_sem, hS0]; first | done | ((repeat' apply And.intro) <;> first | omega | (refine w64 ?_ ?_ ?_ <;> omega) | rfl | skip))
 ·rw [v5, hB, cond_true, o8 (by rwa [f9 (by omega)] at ha)]
noncomputable def a0W : CT := i8 (fun (x : c6) => b1V x)
@[go_sem] theorem c0a (x0 : List c7) (x1 : List c4) : a0W [(true, [.sl false [.i .i64 0, .s [], .i .i64 0] (x0.map c7.cells), .sl false [.i .i64 0, .s [], .sl false [.s [], .i .i64 0, .s []] [], .sl false [.i .i64 0, .s [], .sl false [.s [], .i .i64 0, .s []] [], .i .i64 0, .s [], .i .i64 0, .s [], .s [], .i .i64 0, .s []] []] (x1.map (c4.cells false false))])] = some (True, [], .one (false, [.i .i64 (v5 (c6.mk x0 x1))])) := f5 _ (by rintro ⟨_, _⟩ ⟨_, _⟩ h; simp at h; simp_all) (c6.mk x0 x1)
theorem a7W : OkC Tryz.prog 86 a0W := f7 _
end Go.Aw
