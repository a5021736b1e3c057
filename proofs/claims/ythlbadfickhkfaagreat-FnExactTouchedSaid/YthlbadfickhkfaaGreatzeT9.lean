/- The first rule with a variable that no literal binds. No condition. -/
import Derived.Test.YthlbadfickhkfaaGreatzeT8
namespace Go.Aw
open Go.Proofs
attribute [local irreducible] aft blk lpK retK AW A0n
set_option linter.unusedVariables false
set_option linter.unusedSimpArgs false
set_option maxRecDepth 100000
noncomputable def a2L (r : GRule) : Bool := decide ((0 : Int) < (a5h r).length)
noncomputable def t2 (p : GProgram) : Int := bif g8 p then w4 a2L p.Rules else -2
def a1E : ACode := q' ([o' 1 (.box 4 (.t 0)), b' 2 false]) (q' ([e' 3 4 1, c' 4 118 [3], n' 5 4, o' 6 (.bin .gtr (.t 5) (k' 0)), m' 2 6]) .ret)
theorem a7L : cmp Tryz.prog Tryz.f151 = some a1E := by kernel_rfl
theorem a8I (r : GRule) : A0n Tryz.prog 151 [(true, [.i .i64 r.Kind, .s r.Head.Name, .sl false [.s [], .i .i64 0, .s []] (r.Head.Args.map GTerm.cells), .sl false [.i .i64 0, .s [], .sl false [.s [], .i .i64 0, .s []] [], .i .i64 0, .s [], .i .i64 0, .s [], .s [], .i .i64 0, .s []] (r.Body.map (GLit.cells false false))])] [] (.one (false, [.b (a2L r)])) := by
 refine spec_of2 false false none Tryz.func151 a7L (rvs := [.t 2]) (hΓ := mkCtx_ok (deep := false) (l := [(118, [], a0w)]) ⟨a7w, trivial⟩) (h := ?_)
 intro hb hE
 simp only [go_sem] at hb
 simp only [a1E, x']
 (try refine A2X ?_); simp only [go_sem]; (repeat' first | apply CJ.mk | intro hc); all_goals try ((repeat' first | apply And.intro | intro hs) <;> (try simp only [go_sem, Bool.and_eq_false_iff] at hs) <;> omega)
 all_goals (first | rfl | trace_state)
noncomputable def y5 : CT := d7 (fun (x : GRule) => a8I x)
@[go_sem] theorem b7V (r_Kind : Int) (r_Head_Name : List UInt8) (r_Head_Args : List GTerm) (r_Body : List GLit) : y5 [(true, [.i .i64 r_Kind, .s r_Head_Name, .sl false [.s [], .i .i64 0, .s []] (r_Head_Args.map GTerm.cells), .sl false [.i .i64 0, .s [], .sl false [.s [], .i .i64 0, .s []] [], .i .i64 0, .s [], .i .i64 0, .s [], .s [], .i .i64 0, .s []] (r_Body.map (GLit.cells false false))])] = some (True, [], .one (false, [.b (a2L (GRule.mk r_Kind (GAtom.mk r_Head_Name r_Head_Args) r_Body))])) := c4 _ (by rintro ⟨_, ⟨_, _⟩, _⟩ ⟨_, ⟨_, _⟩, _⟩ h; simp at h; simp_all) (GRule.mk r_Kind (GAtom.mk r_Head_Name r_Head_Args) r_Body)
theorem a5R : OkC Tryz.prog 151 y5 := c5 _
theorem b7F (l : List GRule) : A0n Tryz.prog 89 [(false, [.sl false [.i .i64 0, .s [], .sl false [.s [], .i .i64 0, .s []] [], .sl false [.i .i64 0, .s [], .sl false [.s [], .i .i64 0, .s []] [], .i .i64 0, .s [], .i .i64 0, .s [], .s [], .i .i64 0, .s []] []] (l.map (GRule.cells false false))]), (false, [.f 151 []])] [] (.one (false, [.i .i64 (w4 (fun y => a2L y) l)])) := by
 refine spec_of2 false false none Tryz.func89 b4a (rvs := [.t 4]) (hΓ := mkCtx_ok (deep := false) (l := [(151, [], y5)]) ⟨a5R, trivial⟩) (h := ?_)
 intro hb hE
 simp only [go_sem] at hb
 simp only [a8l, x']
 (try refine A2X ?_); simp only [go_sem]; (repeat' first | apply CJ.mk | intro hc); all_goals try ((repeat' first | apply And.intro | intro hs) <;> (try simp only [go_sem, Bool.and_eq_false_iff] at hs) <;> omega)
 refine aw_loop2 false [] [0, 1, 7] [] [] (fun i : {i : Nat // i ≤ l.length ∧ (l.take i).any (fun y => a2L y) = false} => [(8, slV (.i .i64 i.1))]) (fun i => []) (fun i => []) (fun i => l.length - i.1) (⟨0, by simp⟩) _ rfl ?_ ?_
 · simp only [go_sem]
  all_goals first | omega | ((repeat' apply And.intro) <;> first | omega | rfl | skip)
 intro S0 hS0 i
 simp only [go_sem] at hS0
 obtain ⟨i, hi, ha⟩ := i
 (try refine A2X ?_); simp only [go_sem, hS0]; (repeat' first | apply CJ.mk | intro hc); all_goals try ((repeat' first | apply And.intro | intro hs) <;> (try simp only [go_sem, Bool.and_eq_false_iff] at hs) <;> omega)
 · exact (l8 (p := fun y => a2L y) (d := default) (by omega) ha (by simpa [-List.getD_eq_getElem?_getD] using hc)).symm
 · (refine lpK_n2 (⟨i + 1, by omega, i8 (p := fun y => a2L y) default (by omega) ha (by simpa [-List.getD_eq_getElem?_getD] using hc)⟩) _ rfl ?_; simp only [go_sem, hS0]; first | done | ((repeat' apply And.intro) <;> first | omega | (refine w64 ?_ ?_ ?_ <;> omega) | rfl | skip))
 · exact (l7 (by rwa [c6 (by omega)] at ha)).symm
 all_goals trace_state
noncomputable def a4R : CT := d7 (fun (x : (List GRule)) => b7F x)
@[go_sem] theorem c3Q (l : List GRule) : a4R [(false, [.sl false [.i .i64 0, .s [], .sl false [.s [], .i .i64 0, .s []] [], .sl false [.i .i64 0, .s [], .sl false [.s [], .i .i64 0, .s []] [], .i .i64 0, .s [], .i .i64 0, .s [], .s [], .i .i64 0, .s []] []] (l.map (GRule.cells false false))]), (false, [.f 151 []])] = some (True, [], .one (false, [.i .i64 (w4 (fun y => a2L y) l)])) := c4 _ (by intro x y h; simp at h; simp_all) l
theorem b2m : OkC Tryz.prog 89 a4R := c5 _
def a2R : ACode := q' ([o' 1 (.box 2 (.t 0)), z' 2 0]) (.seq (q' ([e' 3 2 1, c' 4 150 [3], o' 5 (.not (.t 4))]) (.cond (.t 5) (q' ([o' 2 (.mov (.k (.v false [.c (.i .i64
 (-2))])))]) .ret) .skip)) (q' ([f' 6 1 1, l' 7 6, o' 8 (.call 89 [.t 7, .k (.v false [.c (.f 151 [])])]), m' 2 8]) .ret))
theorem a9I : cmp Tryz.prog Tryz.f87 = some a2R := by kernel_rfl
theorem b1s (p : GProgram) : A0n Tryz.prog 87 [(true, [.sl false [.i .i64 0, .s [], .i .i64 0] (p.Decls.map GDecl.cells), .sl false [.i .i64 0, .s [], .sl false [.s [], .i .i64 0, .s []] [], .sl false [.i .i64 0, .s [], .sl false [.s [], .i .i64 0, .s []] [], .i .i64 0, .s [], .i .i64 0, .s [], .s [], .i .i64 0, .s []] []] (p.Rules.map (GRule.cells false false))])] [] (.one (false, [.i .i64 (t2 p)])) := by
 refine spec_of2 false false none Tryz.func87 a9I (rvs := [.t 2]) (hΓ := mkCtx_ok (deep := false) (l := [(150, [], u3), (89, [], a4R)]) ⟨a1M, b2m, trivial⟩) (h := ?_)
 intro hb hE
 simp only [go_sem] at hb
 simp only [a2R, x']
 (try refine A2X ?_); simp only [go_sem]; (repeat' first | apply CJ.mk | intro hc); all_goals try ((repeat' first | apply And.intro | intro hs) <;> (try simp only [go_sem, Bool.and_eq_false_iff] at hs) <;> omega)
 all_goals (have h9 : g8 p = _ := hc; rw [t2, h9]; first | rfl | trace_state)
noncomputable def a0v : CT := d7 (fun (x : GProgram) => b1s x)
@[go_sem] theorem b9x (p_Decls : List GDecl) (p_Rules : List GRule) : a0v [(true, [.sl false [.i .i64 0, .s [], .i .i64 0] (p_Decls.map GDecl.cells), .sl false [.i .i64 0, .s [], .sl false [.s [], .i .i64 0, .s []] [], .sl false [.i .i64 0, .s [], .sl false [.s [], .i .i64 0, .s []] [], .i .i64 0, .s [], .i .i64 0, .s [], .s [], .i .i64 0, .s []] []] (p_Rules.map (GRule.cells false false))])] = some (True, [], .one (false, [.i .i64 (t2 (GProgram.mk p_Decls p_Rules))])) := c4 _ (by rintro ⟨_, _⟩ ⟨_, _⟩ h; simp at h; simp_all) (GProgram.mk p_Decls p_Rules)
theorem a7v : OkC Tryz.prog 87 a0v := c5 _
def a3f : ACode := q' ([o' 1 (.box 2 (.t 0)), z' 2 0]) (.seq (q' ([e' 4 2 1, c' 5 134 [4], o' 6 (.not (.t 5))]) (.cond (.t 6) (q' ([o' 2 (.mov (.k (.v false [.c (.i .i64
 (-2))])))]) .ret) .skip)) (.seq (q' ([f' 7 1 1, l' 8 7, n' 9 8, z' 10 0]) (.block 0 (.loop (q' ([r' 11 10 9]) (.seq (.cond (.t 11) .skip (.exit 0)) (.seq
 (.block 1 (q' ([m' 12 10, m' 3 12]) (q' ([f' 13 1 1, l' 14 13, m' 15 3, i' 16 4 14 15, e' 17 4 16, c' 18 113 [17], n' 19 18, o' 20 (.bin .gtr (.t 19) (k'
 0))]) (.cond (.t 20) (q' ([m' 21 3, m' 2 21]) .ret) .skip)))) (g' [a' 22 10, m' 10 22]))))))) (q' ([o' 2 (.mov (.k (.v false [.c (.i .i64 (-1))])))]) .ret)))
theorem a9W : cmp Tryz.prog Tryz.f86 = some a3f := by kernel_rfl
theorem b1G (p : GProgram) : A0n Tryz.prog 86 [(true, [.sl false [.i .i64 0, .s [], .i .i64 0] (p.Decls.map GDecl.cells), .sl false [.i .i64 0, .s [], .sl false [.s [], .i .i64 0, .s []] [], .sl false [.i .i64 0, .s [], .sl false [.s [], .i .i64 0, .s []] [], .i .i64 0, .s [], .i .i64 0, .s [], .s [], .i .i64 0, .s []] []] (p.Rules.map (GRule.cells false false))])] [] (.one (false, [.i .i64 (t2 p)])) := by
 refine spec_of2 false false none Tryz.func86 a9W (rvs := [.t 2]) (hΓ := mkCtx_ok (deep := false) (l := [(134, [], u6), (113, [], a0I)]) ⟨a1O, a7I, trivial⟩) (h := ?_)
 intro hb hE
 simp only [go_sem] at hb
 simp only [a3f, x']
 (try refine A2X ?_); simp only [go_sem]; (repeat' first | apply CJ.mk | intro hc); all_goals try ((repeat' first | apply And.intro | intro hs) <;> (try simp only [go_sem, Bool.and_eq_false_iff] at hs) <;> omega)
 · rw [t2, hc]; rfl
 have hB : g8 p = true := hc
 clear hc
 refine aw_loop2 false [] [1, 9] [2] [] (fun i : {i : Nat // i ≤ p.Rules.length ∧ (p.Rules.take i).any a2L = false} => [(10, slV (.i .i64 i.1))]) (fun i => []) (fun i => []) (fun i => p.Rules.length - i.1) (⟨0, by simp⟩) _ rfl ?_ ?_
 · simp only [go_sem]
  all_goals first | omega | ((repeat' apply And.intro) <;> first | omega | rfl | skip)
 intro S0 hS0 i
 simp only [go_sem] at hS0
 obtain ⟨i, hi, ha⟩ := i
 (try refine A2X ?_); simp only [go_sem, hS0]; (repeat' first | apply CJ.mk | intro hc); all_goals try ((repeat' first | apply And.intro | intro hs) <;> (try simp only [go_sem, Bool.and_eq_false_iff] at hs) <;> omega)
 · rw [t2, hB, cond_true, l8 (p := a2L) (d := default) (i := i) (by omega) ha (decide_eq_true hc)]
 · (refine lpK_n2 (⟨i + 1, by omega, i8 (p := a2L) default (by omega) ha (decide_eq_false hc)⟩) _ rfl ?_; simp only [go_sem, hS0]; first | done | ((repeat' apply And.intro) <;> first | omega | (refine w64 ?_ ?_ ?_ <;> omega) | rfl | skip))
 · rw [t2, hB, cond_true, l7 (by rwa [c6 (by omega)] at ha)]
noncomputable def a0H : CT := d7 (fun (x : GProgram) => b1G x)
@[go_sem] theorem b9L (p_Decls : List GDecl) (p_Rules : List GRule) : a0H [(true, [.sl false [.i .i64 0, .s [], .i .i64 0] (p_Decls.map GDecl.cells), .sl false [.i .i64 0, .s [], .sl false [.s [], .i .i64 0, .s []] [], .sl false [.i .i64 0, .s [], .sl false [.s [], .i .i64 0, .s []] [], .i .i64 0, .s [], .i .i64 0, .s [], .s [], .i .i64 0, .s []] []] (p_Rules.map (GRule.cells false false))])] = some (True, [], .one (false, [.i .i64 (t2 (GProgram.mk p_Decls p_Rules))])) := c4 _ (by rintro ⟨_, _⟩ ⟨_, _⟩ h; simp at h; simp_all) (GProgram.mk p_Decls p_Rules)
theorem a7H : OkC Tryz.prog 86 a0H := c5 _
end Go.Aw
