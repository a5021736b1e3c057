/- The law of plain programs. No condition. -/
import Derived.Test.YthlbadfickhkfaaGreatzcT20
import Derived.Test.YthlbadfickhkfaaGreatzcB3
namespace Go.Aw
open Go.Proofs
attribute [local irreducible] aft blk lpK retK AW A0l
set_option linter.unusedVariables false
set_option linter.unusedSimpArgs false
set_option maxRecDepth 100000
def a0K : ACode := q' ([o' 1 (.box 2 (.t 0)), b' 2 false]) (q' ([z' 3 1048576]) (q' ([e' 7 2 1, m' 8 3, c' 9 12 [7, 8], m' 3 9]) (.seq (q' ([m' 10 3, o' 11 (.bin .lss (.t 10) (k'
 0))]) (.cond (.t 11) (q' ([b' 2 true]) .ret) .skip)) (q' ([e' 12 2 1, c' 13 14 [12], c' 14 28 [13], m' 4 14]) (q' ([e' 15 2 1, c' 16 14 [15], w' 5 [.sl [.i
 .i64 0, .s [], .i .i64 0], .sl [.i .i64 0, .s [], .sl false [.s [], .i .i64 0, .s []] [], .sl false [.i .i64 0, .s [], .sl false [.s [], .i .i64 0, .s []] [],
 .i .i64 0, .s [], .i .i64 0, .s [], .s [], .i .i64 0, .s []] []]], s' 2 5 16]) (q' ([e' 17 2 5, c' 18 29 [17], m' 6 18]) (.seq (q' ([m' 19 6, m' 20 4, o' 21
 (.bin .neq (.t 19) (.t 20))]) (.cond (.t 21) (q' ([b' 2 false]) .ret) .skip)) (.seq (.seq (.reg true [e' 22 2 5, e' 23 2 1, c' 24 14 [23], c' 25 17 [22, 24],
 o' 26 (.not (.t 25))]) (.cond (.t 26) (q' ([b' 2 false]) .ret) .skip)) (q' ([b' 2 true]) .ret)))))))))
theorem a6d : cmp Tryz.prog Tryz.f6 = some a0K := by kernel_rfl
theorem a1q (p : GProgram) : A0l Tryz.prog 6 [(true, [.sl false [.i .i64 0, .s [], .i .i64 0] (p.Decls.map GDecl.cells), .sl false [.i .i64 0, .s [], .sl false [.s [], .i .i64 0, .s []] [], .sl false [.i .i64 0, .s [], .sl false [.s [], .i .i64 0, .s []] [], .i .i64 0, .s [], .i .i64 0, .s [], .s [], .i .i64 0, .s []] []] (p.Rules.map (GRule.cells false false))])] [] (.one (false, [.b true])) := by
 refine spec_of2 false false none Tryz.func6 a6d (rvs := [.t 2]) (hΓ := mkCtx_ok (deep := false) (l := [(12, [], a0g), (14, [], a0h), (28, [], a4f), (29, [], a3Y), (17, [], a0f)]) ⟨a6x, a6y, b0T, b0M, a6w, trivial⟩) (h := ?_)
 intro hb hE
 simp only [go_sem] at hb
 simp only [a0K, x']
 (try refine A2V ?_); simp only [go_sem]; (repeat' first | apply CJ.mk | intro hc); all_goals try ((repeat' first | apply And.intro | intro hs) <;> (try simp only [go_sem, Bool.and_eq_false_iff] at hs) <;> omega)
 all_goals (first | exact (hc trivial).elim | (exfalso; simp at hc; done) | ((try simp only [szR] at *) <;> omega) | trace_state)
noncomputable def a6v : CT := c9 (fun (x : GProgram) => a1q x)
@[go_sem] theorem b5w (p_Decls : List GDecl) (p_Rules : List GRule) : a6v [(true, [.sl false [.i .i64 0, .s [], .i .i64 0] (p_Decls.map GDecl.cells), .sl false [.i .i64 0, .s [], .sl false [.s [], .i .i64 0, .s []] [], .sl false [.i .i64 0, .s [], .sl false [.s [], .i .i64 0, .s []] [], .i .i64 0, .s [], .i .i64 0, .s [], .s [], .i .i64 0, .s []] []] (p_Rules.map (GRule.cells false false))])] = some (True, [], .one (false, [.b true])) := c4 _ (by rintro ⟨_, _⟩ ⟨_, _⟩ h; simp at h; simp_all) (GProgram.mk p_Decls p_Rules)
end Go.Aw
