/- The first rule with a variable that no literal binds. No condition. -/
import Derived.Test.YthlbadfickhkfaaGreatzdT8
namespace Go.Aw
open Go.Proofs
attribute [local irreducible] aft blk lpK retK AW A0l
set_option linter.unusedVariables false
set_option linter.unusedSimpArgs false
set_option maxRecDepth 100000
noncomputable def a2l (r : GRule) : Bool := decide ((0 : Int) < (a4F r).length)
noncomputable def p6 (p : GProgram) : Int := bif j1 p then t6 a2l p.Rules else -2
def a1h : ACode := q' ([o' 1 (.box 4 (.t 0)), b' 2 false]) (q' ([e' 3 4 1, c' 4 118 [3], n' 5 4, o' 6 (.bin .gtr (.t 5) (k' 0)), m' 2 6]) .ret)
theorem a6Z : cmp Tryz.prog Tryz.f151 = some a1h := by kernel_rfl
theorem a8i (r : GRule) : A0l Tryz.prog 151 [(true, [.i .i64 r.Kind, .s r.Head.Name, .sl false [.s [], .i .i64 0, .s []] (r.Head.Args.map GTerm.cells), .sl false [.i .i64 0, .s [], .sl false [.s [], .i .i64 0, .s []] [], .i .i64 0, .s [], .i .i64 0, .s [], .s [], .i .i64 0, .s []] (r.Body.map (GLit.cells false false))])] [] (.one (false, [.b (a2l r)])) := by
 refine spec_of2 false false none Tryz.func151 a6Z (rvs := [.t 2]) (hΓ := mkCtx_ok (deep := false) (l := [(118, [], a0e)]) ⟨a6P, trivial⟩) (h := ?_)
 intro hb hE
 simp only [go_sem] at hb
 simp only [a1h, x']
 (try refine A2V ?_); simp only [go_sem]; (repeat' first | apply CJ.mk | intro hc); all_goals try ((repeat' first | apply And.intro | intro hs) <;> (try simp only [go_sem, Bool.and_eq_false_iff] at hs) <;> omega)
 all_goals (first | rfl | trace_state)
noncomputable def u6 : CT := c8 (fun (x : GRule) => a8i x)
@[go_sem] theorem b7e (r_Kind : Int) (r_Head_Name : List UInt8) (r_Head_Args : List GTerm) (r_Body : List GLit) : u6 [(true, [.i .i64 r_Kind, .s r_Head_Name, .sl false [.s [], .i .i64 0, .s []] (r_Head_Args.map GTerm.cells), .sl false [.i .i64 0, .s [], .sl false [.s [], .i .i64 0, .s []] [], .i .i64 0, .s [], .i .i64 0, .s [], .s [], .i .i64 0, .s []] (r_Body.map (GLit.cells false false))])] = some (True, [], .one (false, [.b (a2l (GRule.mk r_Kind (GAtom.mk r_Head_Name r_Head_Args) r_Body))])) := c4 _ (by rintro ⟨_, ⟨_, _⟩, _⟩ ⟨_, ⟨_, _⟩, _⟩ h; simp at h; simp_all) (GRule.mk r_Kind (GAtom.mk r_Head_Name r_Head_Args) r_Body)
theorem a5o : OkC Tryz.prog 151 u6 := c5 _
theorem b6L (l : List GRule) : A0l Tryz.prog 89 [(false, [.sl false [.i .i64 0, .s [], .sl false [.s [], .i .i64 0, .s []] [], .sl false [.i .i64 0, .s [], .sl false [.s [], .i .i64 0, .s []] [], .i .i64 0, .s [], .i .i64 0, .s [], .s [], .i .i64 0, .s []] []] (l.map (GRule.cells false false))]), (false, [.f 151 []])] [] (.one (false, [.i .i64 (t6 (fun y => a2l y) l)])) := by
 refine spec_of2 false false none Tryz.func89 b3a (rvs := [.t 4]) (hΓ := mkCtx_ok (deep := false) (l := [(151, [], u6)]) ⟨a5o, trivial⟩) (h := ?_)
 intro hb hE
 simp only [go_sem] at hb
 simp only [a7B, x']
 (try refine A2V ?_); simp only [go_sem]; (repeat' first | apply CJ.mk | intro hc); all_goals try ((repeat' first | apply And.intro | intro hs) <;> (try simp only [go_sem, Bool.and_eq_false_iff] at hs) <;> omega)
 refine aw_loop2 false [] [0, 1, 7] [] [] (fun i : {i : Nat // i ≤ l.length ∧ (l.take i).any (fun y => a2l y) = false} => [(8, slV (.i .i64 i.1))]) (fun i => []) (fun i => []) (fun i => l.length - i.1) (⟨0, by simp⟩) _ rfl ?_ ?_
 ·simp only [go_sem]
  all_goals first | omega | ((repeat' apply And.intro) <;> first | omega | rfl | skip)
 intro S0 hS0 i
 simp only [go_sem] at hS0
 obtain ⟨i, hi, ha⟩ := i
 (try refine A2V ?_); simp only [go_sem, hS0]; (repeat' first | apply CJ.mk | intro hc); all_goals try ((repeat' first | apply And.intro | intro hs) <;> (try simp only [go_sem, Bool.and_eq_false_iff] at hs) <;> omega)
 ·exact (j8 (p := fun y => a2l y) (d := default) (by omega) ha (by simpa [-List.getD_eq_getElem?_getD] using hc)).symm
 ·(refine lpK_n2 (⟨i + 1, by omega, f8 (p := fun y => a2l y) default (by omega) ha (by simpa [-List.getD_eq_getElem?_getD] using hc)⟩) _ rfl ?_; simp only [go_sem, hS0]; first | done | ((repeat' apply And.intro) <;> first | omega | (refine w64 ?_ ?_ ?_ <;> omega) | rfl | skip))
 ·exact (j7 (by rwa [c6 (by omega)] at ha)).symm
 all_goals trace_state
noncomputable def a4m : CT := c8 (fun (x : (List GRule)) => b6L x)
@[go_sem] theorem c2R (l : List GRule) : a4m [(false, [.sl false [.i .i64 0, .s [], .sl false [.s [], .i .i64 0, .s []] [], .sl false [.i .i64 0, .s [], .sl false [.s [], .i .i64 0, .s []] [], .i .i64 0, .s [], .i .i64 0, .s [], .s [], .i .i64 0, .s []] []] (l.map (GRule.cells false false))]), (false, [.f 151 []])] = some (True, [], .one (false, [.i .i64 (t6 (fun y => a2l y) l)])) := c4 _ (by intro x y h; simp at h; simp_all) l
theorem b1i : OkC Tryz.prog 89 a4m := c5 _
def a2p : ACode := q' ([o' 1 (.box 2 (.t 0)), z' 2 0]) (.seq (q' ([e' 3 2 1, c' 4 150 [3], o' 5 (.not (.t 4))]) (.cond (.t 5) (q' ([o' 2 (.mov (.k (.v false [.c (.i .i64
 (-2))])))]) .ret) .skip)) (q' ([f' 6 1 1, l' 7 6, o' 8 (.call 89 [.t 7, .k (.v false [.c (.f 151 [])])]), m' 2 8]) .ret))
theorem a9b : cmp Tryz.prog Tryz.f87 = some a2p := by kernel_rfl
theorem b0C (p : GProgram) : A0l Tryz.prog 87 [(true, [.sl false [.i .i64 0, .s [], .i .i64 0] (p.Decls.map GDecl.cells), .sl false [.i .i64 0, .s [], .sl false [.s [], .i .i64 0, .s []] [], .sl false [.i .i64 0, .s [], .sl false [.s [], .i .i64 0, .s []] [], .i .i64 0, .s [], .i .i64 0, .s [], .s [], .i .i64 0, .s []] []] (p.Rules.map (GRule.cells false false))])] [] (.one (false, [.i .i64 (p6 p)])) := by
 refine spec_of2 false false none Tryz.func87 a9b (rvs := [.t 2]) (hΓ := mkCtx_ok (deep := false) (l := [(150, [], s8), (89, [], a4m)]) ⟨a1n, b1i, trivial⟩) (h := ?_)
 intro hb hE
 simp only [go_sem] at hb
 simp only [a2p, x']
 (try refine A2V ?_); simp only [go_sem]; (repeat' first | apply CJ.mk | intro hc); all_goals try ((repeat' first | apply And.intro | intro hs) <;> (try simp only [go_sem, Bool.and_eq_false_iff] at hs) <;> omega)
 all_goals (have h9 : j1 p = _ := hc; rw [p6, h9]; first | rfl | trace_state)
noncomputable def a0d : CT := c8 (fun (x : GProgram) => b0C x)
@[go_sem] theorem b8C (p_Decls : List GDecl) (p_Rules : List GRule) : a0d [(true, [.sl false [.i .i64 0, .s [], .i .i64 0] (p_Decls.map GDecl.cells), .sl false [.i .i64 0, .s [], .sl false [.s [], .i .i64 0, .s []] [], .sl false [.i .i64 0, .s [], .sl false [.s [], .i .i64 0, .s []] [], .i .i64 0, .s [], .i .i64 0, .s [], .s [], .i .i64 0, .s []] []] (p_Rules.map (GRule.cells false false))])] = some (True, [], .one (false, [.i .i64 (p6 (GProgram.mk p_Decls p_Rules))])) := c4 _ (by rintro ⟨_, _⟩ ⟨_, _⟩ h; simp at h; simp_all) (GProgram.mk p_Decls p_Rules)
theorem a6O : OkC Tryz.prog 87 a0d := c5 _
def a2x : ACode := q' ([o' 1 (.box 2 (.t 0)), z' 2 0]) (.seq (q' ([e' 4 2 1, c' 5 134 [4], o' 6 (.not (.t 5))]) (.cond (.t 6) (q' ([o' 2 (.mov (.k (.v false [.c (.i .i64
 (-2))])))]) .ret) .skip)) (.seq (q' ([f' 7 1 1, l' 8 7, n' 9 8, z' 10 0]) (.block 0 (.loop (q' ([r' 11 10 9]) (.seq (.cond (.t 11) .skip (.exit 0)) (.seq
 (.block 1 (q' ([m' 12 10, m' 3 12]) (q' ([f' 13 1 1, l' 14 13, m' 15 3, i' 16 4 14 15, e' 17 4 16, c' 18 113 [17], n' 19 18, o' 20 (.bin .gtr (.t 19) (k'
 0))]) (.cond (.t 20) (q' ([m' 21 3, m' 2 21]) .ret) .skip)))) (g' [a' 22 10, m' 10 22]))))))) (q' ([o' 2 (.mov (.k (.v false [.c (.i .i64 (-1))])))]) .ret)))
theorem a9j : cmp Tryz.prog Tryz.f86 = some a2x := by kernel_rfl
theorem b0K (p : GProgram) : A0l Tryz.prog 86 [(true, [.sl false [.i .i64 0, .s [], .i .i64 0] (p.Decls.map GDecl.cells), .sl false [.i .i64 0, .s [], .sl false [.s [], .i .i64 0, .s []] [], .sl false [.i .i64 0, .s [], .sl false [.s [], .i .i64 0, .s []] [], .i .i64 0, .s [], .i .i64 0, .s [], .s [], .i .i64 0, .s []] []] (p.Rules.map (GRule.cells false false))])] [] (.one (false, [.i .i64 (p6 p)])) := by
 refine spec_of2 false false none Tryz.func86 a9j (rvs := [.t 2]) (hΓ := mkCtx_ok (deep := false) (l := [(134, [], s9), (113, [], a0l)]) ⟨a1o, a6W, trivial⟩) (h := ?_)
 intro hb hE
 simp only [go_sem] at hb
 simp only [a2x, x']
 (try refine A2V ?_); simp only [go_sem]; (repeat' first | apply CJ.mk | intro hc); all_goals try ((repeat' first | apply And.intro | intro hs) <;> (try simp only [go_sem, Bool.and_eq_false_iff] at hs) <;> omega)
 ·rw [p6, hc]; rfl
 have hB : j1 p = true := hc
 clear hc
 refine aw_loop2 false [] [1, 9] [2] [] (fun i : {i : Nat // i ≤ p.Rules.length ∧ (p.Rules.take i).any a2l = false} => [(10, slV (.i .i64 i.1))]) (fun i => []) (fun i => []) (fun i => p.Rules.length - i.1) (⟨0, by simp⟩) _ rfl ?_ ?_
 ·simp only [go_sem]
  all_goals first | omega | ((repeat' apply And.intro) <;> first | omega | rfl | skip)
 intro S0 hS0 i
 simp only [go_sem] at hS0
 obtain ⟨i, hi, ha⟩ := i
 (try refine A2V ?_); simp only [go_sem, hS0]; (repeat' first | apply CJ.mk | intro hc); all_goals try ((repeat' first | apply And.intro | intro hs) <;> (try simp only [go_sem, Bool.and_eq_false_iff] at hs) <;> omega)
 ·rw [p6, hB, cond_true, j8 (p := a2l) (d := default) (i := i) (by omega) ha (decide_eq_true hc)]
 ·(refine lpK_n2 (⟨i + 1, by omega, f8 (p := a2l) default (by omega) ha (decide_eq_false hc)⟩) _ rfl ?_; simp only [go_sem, hS0]; first | done | ((repeat' apply And.intro) <;> first | omega | (refine w64 ?_ ?_ ?_ <;> omega) | rfl | skip))
 ·rw [p6, hB, cond_true, j7 (by rwa [c6 (by omega)] at ha)]
noncomputable def a0k : CT := c8 (fun (x : GProgram) => b0K x)
@[go_sem] theorem b8K (p_Decls : List GDecl) (p_Rules : List GRule) : a0k [(true, [.sl false [.i .i64 0, .s [], .i .i64 0] (p_Decls.map GDecl.cells), .sl false [.i .i64 0, .s [], .sl false [.s [], .i .i64 0, .s []] [], .sl false [.i .i64 0, .s [], .sl false [.s [], .i .i64 0, .s []] [], .i .i64 0, .s [], .i .i64 0, .s [], .s [], .i .i64 0, .s []] []] (p_Rules.map (GRule.cells false false))])] = some (True, [], .one (false, [.i .i64 (p6 (GProgram.mk p_Decls p_Rules))])) := c4 _ (by rintro ⟨_, _⟩ ⟨_, _⟩ h; simp at h; simp_all) (GProgram.mk p_Decls p_Rules)
theorem a6V : OkC Tryz.prog 86 a0k := c5 _
end Go.Aw
