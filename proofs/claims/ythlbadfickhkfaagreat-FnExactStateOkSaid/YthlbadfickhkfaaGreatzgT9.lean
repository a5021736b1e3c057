/- The first rule with a variable that no literal binds. No condition. -/
import Derived.Test.YthlbadfickhkfaaGreatzgT8
namespace Go.Aw
open Go.Proofs
attribute [local irreducible] aft blk lpK retK AW A0l
set_option linter.unusedVariables false
set_option linter.unusedSimpArgs false
set_option maxRecDepth 100000
noncomputable def a3w (r : c6) : Bool := decide ((0 : Int) < (a6i r).length)
noncomputable def v9 (p : c7) : Int := bif l4 p then y3 a3w p.Rules else -2
def a2g : ACode := q' ([o' 1 (.box 4 (.t 0)), b' 2 false]) (q' ([e' 3 4 1, c' 4 118 [3], n' 5 4, o' 6 (.bin .gtr (.t 5) (k' 0)), m' 2 6]) .ret)
theorem a9a : cmp Tryz.prog Tryz.f151 = some a2g := by kernel_rfl
theorem b0w (r : c6) : A0l Tryz.prog 151 [(true, [.i .i64 r.Kind, .s r.Head.Name, .sl false [.s [], .i .i64 0, .s []] (r.Head.Args.map c4.cells), .sl false [.i .i64 0, .s [], .sl false [.s [], .i .i64 0, .s []] [], .i .i64 0, .s [], .i .i64 0, .s [], .s [], .i .i64 0, .s []] (r.Body.map (d3.cells false false))])] [] (.one (false, [.b (a3w r)])) := by
 refine spec_of2 false false none Tryz.func151 a9a (rvs := [.t 2]) (hΓ := mkCtx_ok (deep := false) (l := [(118, [], a0T)]) ⟨a8Q, trivial⟩) (h := ?_)
 intro hb hE
 simp only [go_sem] at hb
 simp only [a2g, x']
 (try refine A2V ?_); simp only [go_sem]; (repeat' first | apply CJ.mk | intro hc); all_goals try ((repeat' first | apply And.intro | intro hs) <;> (try simp only [go_sem, Bool.and_eq_false_iff] at hs) <;> omega)
 all_goals (first | rfl | trace_state)
noncomputable def a0j : CT := i5 (fun (x : c6) => b0w x)
@[go_sem] theorem c0Y (x0 : Int) (x1 : List UInt8) (x2 : List c4) (x3 : List d3) : a0j [(true, [.i .i64 x0, .s x1, .sl false [.s [], .i .i64 0, .s []] (x2.map c4.cells), .sl false [.i .i64 0, .s [], .sl false [.s [], .i .i64 0, .s []] [], .i .i64 0, .s [], .i .i64 0, .s [], .s [], .i .i64 0, .s []] (x3.map (d3.cells false false))])] = some (True, [], .one (false, [.b (a3w (c6.mk x0 (d5.mk x1 x2) x3))])) := f7 _ (by rintro ⟨_, ⟨_, _⟩, _⟩ ⟨_, ⟨_, _⟩, _⟩ h; simp at h; simp_all) (c6.mk x0 (d5.mk x1 x2) x3)
theorem a7f : OkC Tryz.prog 151 a0j := f8 _
theorem c0A (l : List c6) : A0l Tryz.prog 89 [(false, [.sl false [.i .i64 0, .s [], .sl false [.s [], .i .i64 0, .s []] [], .sl false [.i .i64 0, .s [], .sl false [.s [], .i .i64 0, .s []] [], .i .i64 0, .s [], .i .i64 0, .s [], .s [], .i .i64 0, .s []] []] (l.map (c6.cells false false))]), (false, [.f 151 []])] [] (.one (false, [.i .i64 (y3 (fun y => a3w y) l)])) := by
 refine spec_of2 false false none Tryz.func89 b6e (rvs := [.t 4]) (hΓ := mkCtx_ok (deep := false) (l := [(151, [], a0j)]) ⟨a7f, trivial⟩) (h := ?_)
 intro hb hE
 simp only [go_sem] at hb
 simp only [a9I, x']
 (try refine A2V ?_); simp only [go_sem]; (repeat' first | apply CJ.mk | intro hc); all_goals try ((repeat' first | apply And.intro | intro hs) <;> (try simp only [go_sem, Bool.and_eq_false_iff] at hs) <;> omega)
 refine aw_loop2 false [] [0, 1, 7] [] [] (fun i : {i : Nat // i ≤ l.length ∧ (l.take i).any (fun y => a3w y) = false} => [(8, slV (.i .i64 i.1))]) (fun i => []) (fun i => []) (fun i => l.length - i.1) (⟨0, by simp⟩) _ rfl ?_ ?_
 ·simp only [go_sem]
  all_goals first | omega | ((repeat' apply And.intro) <;> first | omega | rfl | skip)
 intro S0 hS0 i
 simp only [go_sem] at hS0
 obtain ⟨i, hi, ha⟩ := i
 (try refine A2V ?_); simp only [go_sem, hS0]; (repeat' first | apply CJ.mk | intro hc); all_goals try ((repeat' first | apply And.intro | intro hs) <;> (try simp only [go_sem, Bool.and_eq_false_iff] at hs) <;> omega)
 ·exact (n9 (p := fun y => a3w y) (d := default) (by omega) ha (by simpa [-List.getD_eq_getElem?_getD] using hc)).symm
 ·(refine lpK_n2 (⟨i + 1, by omega, k7 (p := fun y => a3w y) default (by omega) ha (by simpa [-List.getD_eq_getElem?_getD] using hc)⟩) _ rfl ?_; simp only [go_sem, hS0]; first | done | ((repeat' apply And.intro) <;> first | omega | (refine w64 ?_ ?_ ?_ <;> omega) | rfl | skip))
 ·exact (n8 (by rwa [i3 (by omega)] at ha)).symm
 all_goals trace_state
noncomputable def a5K : CT := i5 (fun (x : (List c6)) => c0A x)
@[go_sem] theorem c7t (l : List c6) : a5K [(false, [.sl false [.i .i64 0, .s [], .sl false [.s [], .i .i64 0, .s []] [], .sl false [.i .i64 0, .s [], .sl false [.s [], .i .i64 0, .s []] [], .i .i64 0, .s [], .i .i64 0, .s [], .s [], .i .i64 0, .s []] []] (l.map (c6.cells false false))]), (false, [.f 151 []])] = some (True, [], .one (false, [.i .i64 (y3 (fun y => a3w y) l)])) := f7 _ (by intro x y h; simp at h; simp_all) l
theorem b3V : OkC Tryz.prog 89 a5K := f8 _
def a3A : ACode := q' ([o' 1 (.box 2 (.t 0)), z' 2 0]) (.seq (q' ([e' 3 2 1, c' 4 150 [3], o' 5 (.not (.t 4))]) (.cond (.t 5) (q' ([o' 2 (.mov (.k (.v false [.c (.i .i64
 (-2))])))]) .ret) .skip)) (q' ([f' 6 1 1, l' 7 6, o' 8 (.call 89 [.t 7, .k (.v false [.c (.f 151 [])])]), m' 2 8]) .ret))
theorem b1w : cmp Tryz.prog Tryz.f87 = some a3A := by kernel_rfl
theorem b3l (p : c7) : A0l Tryz.prog 87 [(true, [.sl false [.i .i64 0, .s [], .i .i64 0] (p.Decls.map c8.cells), .sl false [.i .i64 0, .s [], .sl false [.s [], .i .i64 0, .s []] [], .sl false [.i .i64 0, .s [], .sl false [.s [], .i .i64 0, .s []] [], .i .i64 0, .s [], .i .i64 0, .s [], .s [], .i .i64 0, .s []] []] (p.Rules.map (c6.cells false false))])] [] (.one (false, [.i .i64 (v9 p)])) := by
 refine spec_of2 false false none Tryz.func87 b1w (rvs := [.t 2]) (hΓ := mkCtx_ok (deep := false) (l := [(150, [], y8), (89, [], a5K)]) ⟨a2l, b3V, trivial⟩) (h := ?_)
 intro hb hE
 simp only [go_sem] at hb
 simp only [a3A, x']
 (try refine A2V ?_); simp only [go_sem]; (repeat' first | apply CJ.mk | intro hc); all_goals try ((repeat' first | apply And.intro | intro hs) <;> (try simp only [go_sem, Bool.and_eq_false_iff] at hs) <;> omega)
 all_goals (have h9 : l4 p = _ := hc; rw [v9, h9]; first | rfl | trace_state)
noncomputable def a0S : CT := i5 (fun (x : c7) => b3l x)
@[go_sem] theorem c2A (x0 : List c8) (x1 : List c6) : a0S [(true, [.sl false [.i .i64 0, .s [], .i .i64 0] (x0.map c8.cells), .sl false [.i .i64 0, .s [], .sl false [.s [], .i .i64 0, .s []] [], .sl false [.i .i64 0, .s [], .sl false [.s [], .i .i64 0, .s []] [], .i .i64 0, .s [], .i .i64 0, .s [], .s [], .i .i64 0, .s []] []] (x1.map (c6.cells false false))])] = some (True, [], .one (false, [.i .i64 (v9 (c7.mk x0 x1))])) := f7 _ (by rintro ⟨_, _⟩ ⟨_, _⟩ h; simp at h; simp_all) (c7.mk x0 x1)
theorem a8P : OkC Tryz.prog 87 a0S := f8 _
def a3I : ACode := q' ([o' 1 (.box 2 (.t 0)), z' 2 0]) (.seq (q' ([e' 4 2 1, c' 5 134 [4], o' 6 (.not (.t 5))]) (.cond (.t 6) (q' ([o' 2 (.mov (.k (.v false [.c (.i .i64
 (-2))])))]) .ret) .skip)) (.seq (q' ([f' 7 1 1, l' 8 7, n' 9 8, z' 10 0]) (.block 0 (.loop (q' ([r' 11 10 9]) (.seq (.cond (.t 11) .skip (.exit 0)) (.seq
 (.block 1 (q' ([m' 12 10, m' 3 12]) (q' ([f' 13 1 1, l' 14 13, m' 15 3, i' 16 4 14 15, e' 17 4 16, c' 18 113 [17], n' 19 18, o' 20 (.bin .gtr (.t 19) (k'
 0))]) (.cond (.t 20) (q' ([m' 21 3, m' 2 21]) .ret) .skip)))) (g' [a' 22 10, m' 10 22]))))))) (q' ([o' 2 (.mov (.k (.v false [.c (.i .i64 (-1))])))]) .ret)))
theorem b1E : cmp Tryz.prog Tryz.f86 = some a3I := by kernel_rfl
theorem b3t (p : c7) : A0l Tryz.prog 86 [(true, [.sl false [.i .i64 0, .s [], .i .i64 0] (p.Decls.map c8.cells), .sl false [.i .i64 0, .s [], .sl false [.s [], .i .i64 0, .s []] [], .sl false [.i .i64 0, .s [], .sl false [.s [], .i .i64 0, .s []] [], .i .i64 0, .s [], .i .i64 0, .s [], .s [], .i .i64 0, .s []] []] (p.Rules.map (c6.cells false false))])] [] (.one (false, [.i .i64 (v9 p)])) := by
 refine spec_of2 false false none Tryz.func86 b1E (rvs := [.t 2]) (hΓ := mkCtx_ok (deep := false) (l := [(134, [], z5), (113, [], a1b)]) ⟨a2m, a8X, trivial⟩) (h := ?_)
 intro hb hE
 simp only [go_sem] at hb
 simp only [a3I, x']
 (try refine A2V ?_); simp only [go_sem]; (repeat' first | apply CJ.mk | intro hc); all_goals try ((repeat' first | apply And.intro | intro hs) <;> (try simp only [go_sem, Bool.and_eq_false_iff] at hs) <;> omega)
 ·rw [v9, hc]; rfl
 have hB : l4 p = true := hc
 clear hc
 refine aw_loop2 false [] [1, 9] [2] [] (fun i : {i : Nat // i ≤ p.Rules.length ∧ (p.Rules.take i).any a3w = false} => [(10, slV (.i .i64 i.1))]) (fun i => []) (fun i => []) (fun i => p.Rules.length - i.1) (⟨0, by simp⟩) _ rfl ?_ ?_
 ·simp only [go_sem]
  all_goals first | omega | ((repeat' apply And.intro) <;> first | omega | rfl | skip)
 intro S0 hS0 i
 simp only [go_sem] at hS0
 obtain ⟨i, hi, ha⟩ := i
 (try refine A2V ?_); simp only [go_sem, hS0]; (repeat' first | apply CJ.mk | intro hc); all_goals try ((repeat' first | apply And.intro | intro hs) <;> (try simp only [go_sem, Bool.and_eq_false_iff] at hs) <;> omega)
 ·rw [v9, hB, cond_true, n9 (p := a3w) (d := default) (i := i) (by omega) ha (decide_eq_true hc)]
 ·(refine lpK_n2 (⟨i + 1, by omega, k7 (p := a3w) default (by omega) ha (decide_eq_false hc)⟩) _ rfl ?_; simp only [go_sem, hS0]; first | done | ((repeat' apply And.intro) <;> first | omega | (refine w64 ?_ ?_ ?_ <;> omega) | rfl | skip))
 ·rw [v9, hB, cond_true, n8 (by rwa [i3 (by omega)] at ha)]
noncomputable def a1a : CT := i5 (fun (x : c7) => b3t x)
@[go_sem] theorem c2I (x0 : List c8) (x1 : List c6) : a1a [(true, [.sl false [.i .i64 0, .s [], .i .i64 0] (x0.map c8.cells), .sl false [.i .i64 0, .s [], .sl false [.s [], .i .i64 0, .s []] [], .sl false [.i .i64 0, .s [], .sl false [.s [], .i .i64 0, .s []] [], .i .i64 0, .s [], .i .i64 0, .s [], .s [], .i .i64 0, .s []] []] (x1.map (c6.cells false false))])] = some (True, [], .one (false, [.i .i64 (v9 (c7.mk x0 x1))])) := f7 _ (by rintro ⟨_, _⟩ ⟨_, _⟩ h; simp at h; simp_all) (c7.mk x0 x1)
theorem a8W : OkC Tryz.prog 86 a1a := f8 _
end Go.Aw
