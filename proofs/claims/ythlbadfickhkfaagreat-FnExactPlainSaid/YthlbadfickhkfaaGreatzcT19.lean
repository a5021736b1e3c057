/- Good programs. No condition. -/
import Derived.Test.YthlbadfickhkfaaGreatzcT15
import Derived.Test.YthlbadfickhkfaaGreatzcT18
import Derived.Test.YthlbadfickhkfaaGreatzcT9
namespace Go.Aw
open Go.Proofs
attribute [local irreducible] aft blk lpK retK AW A0l
set_option linter.unusedVariables false
set_option linter.unusedSimpArgs false
set_option maxRecDepth 100000
noncomputable def b0B (p : GProgram) : Bool := (l7 p).2 && p6 p == -1
theorem b6c {p : GProgram} (h : (l7 p).2 = true) : ((c7 p).1 == 0) = true := by
 cases e : ((c7 p).1 == 0) with
 | true => rfl
 | false => rw [l7, e, cond_false] at h; exact h
def a7Q : ACode := q' ([o' 1 (.box 2 (.t 0)), b' 2 false]) (q' ([e' 6 2 1, c' 7 22 [6], m' 5 7, o' 8 (.ext (.t 5) 0), o' 9 (.ext (.t 5) 1), m' 3 8, m' 4 9]) (q' ([m' 10 4, m' 11
 10, ⟨some 12, .ld true 2 (.t 1), some (11, true)⟩, ⟨some 13, .call 87 [.t 12], some (11, true)⟩, ⟨some 14, .bin .eql (.t 13) (.k (.v false [.c (.i .i64
 (-1))])), some (11, true)⟩, o' 15 (.pick (.t 11) (.t 14) (.k (.v false [.c (.b false)]))), m' 2 15]) .ret))
theorem b5F : cmp Tryz.prog Tryz.f27 = some a7Q := by kernel_rfl
theorem b7j (p : GProgram) : A0l Tryz.prog 27 [(true, [.sl false [.i .i64 0, .s [], .i .i64 0] (p.Decls.map GDecl.cells), .sl false [.i .i64 0, .s [], .sl false [.s [], .i .i64 0, .s []] [], .sl false [.i .i64 0, .s [], .sl false [.s [], .i .i64 0, .s []] [], .i .i64 0, .s [], .i .i64 0, .s [], .s [], .i .i64 0, .s []] []] (p.Rules.map (GRule.cells false false))])] [] (.one (false, [.b (b0B p)])) := by
 refine spec_of2 false false none Tryz.func27 b5F (rvs := [.t 2]) (hΓ := mkCtx_ok (deep := false) (l := [(22, [], a2O), (87, [], a0a)]) ⟨a9s, a6s, trivial⟩) (h := ?_)
 intro hb hE
 simp only [go_sem] at hb
 simp only [a7Q, x']
 (try refine A2V ?_); simp only [go_sem]; (repeat' first | apply CJ.mk | intro hc); all_goals try ((repeat' first | apply And.intro | intro hs) <;> (try simp only [go_sem, Bool.and_eq_false_iff] at hs) <;> omega)
 all_goals (first | rfl | trace_state)
noncomputable def a5Q : CT := c9 (fun (x : GProgram) => b7j x)
@[go_sem] theorem c2A (p_Decls : List GDecl) (p_Rules : List GRule) : a5Q [(true, [.sl false [.i .i64 0, .s [], .i .i64 0] (p_Decls.map GDecl.cells), .sl false [.i .i64 0, .s [], .sl false [.s [], .i .i64 0, .s []] [], .sl false [.i .i64 0, .s [], .sl false [.s [], .i .i64 0, .s []] [], .i .i64 0, .s [], .i .i64 0, .s [], .s [], .i .i64 0, .s []] []] (p_Rules.map (GRule.cells false false))])] = some (True, [], .one (false, [.b (b0B (GProgram.mk p_Decls p_Rules))])) := c4 _ (by rintro ⟨_, _⟩ ⟨_, _⟩ h; simp at h; simp_all) (GProgram.mk p_Decls p_Rules)
theorem b2i : OkC Tryz.prog 27 a5Q := c5 _
def a7T : ACode := q' ([o' 1 (.box 2 (.t 0)), b' 2 false]) (q' ([e' 8 2 1, c' 9 62 [8], m' 7 9, o' 10 (.ext (.t 7) 0), o' 11 (.ext (.t 7) 1), m' 3 10, m' 4 11]) (q' ([e' 13 2 1,
 c' 14 21 [13], m' 12 14, o' 15 (.ext (.t 12) 0), o' 16 (.ext (.t 12) 1), m' 5 15, m' 6 16]) (q' ([m' 17 3, o' 18 (.bin .eql (.t 17) (k' 0)), m' 19 18, ⟨some
 20, .ld true 2 (.t 1), some (19, true)⟩, ⟨some 21, .call 86 [.t 20], some (19, true)⟩, ⟨some 22, .bin .eql (.t 21) (.k (.v false [.c (.i .i64 (-1))])), some
 (19, true)⟩, o' 23 (.pick (.t 19) (.t 22) (.k (.v false [.c (.b false)]))), m' 24 23, ⟨some 25, .mov (.t 6), some (24, true)⟩, o' 26 (.pick (.t 24) (.t 25)
 (.k (.v false [.c (.b false)]))), m' 2 26]) .ret)))
theorem b5I : cmp Tryz.prog Tryz.f26 = some a7T := by kernel_rfl
theorem b7m (p : GProgram) : A0l Tryz.prog 26 [(true, [.sl false [.i .i64 0, .s [], .i .i64 0] (p.Decls.map GDecl.cells), .sl false [.i .i64 0, .s [], .sl false [.s [], .i .i64 0, .s []] [], .sl false [.i .i64 0, .s [], .sl false [.s [], .i .i64 0, .s []] [], .i .i64 0, .s [], .i .i64 0, .s [], .s [], .i .i64 0, .s []] []] (p.Rules.map (GRule.cells false false))])] [] (.one (false, [.b (b0B p)])) := by
 refine spec_of2 false false none Tryz.func26 b5I (rvs := [.t 2]) (hΓ := mkCtx_ok (deep := false) (l := [(62, [], p9), (21, [], a2Z), (86, [], a0j)]) ⟨a0L, a9E, a6A, trivial⟩) (h := ?_)
 intro hb hE
 simp only [go_sem] at hb
 simp only [a7T, x']
 (try refine A2V ?_); simp only [go_sem]; (repeat' first | apply CJ.mk | intro hc); all_goals try ((repeat' first | apply And.intro | intro hs) <;> (try simp only [go_sem, Bool.and_eq_false_iff] at hs) <;> omega)
 all_goals (first | (rw [b0B]; cases h1 : ((c7 p).1 == 0) <;> cases h2 : (l7 p).2 <;> cases h3 : (p6 p == -1) <;> first | rfl | (rw [b6c h2] at h1; cases h1)) | trace_state)
noncomputable def a5Y : CT := c9 (fun (x : GProgram) => b7m x)
@[go_sem] theorem c2D (p_Decls : List GDecl) (p_Rules : List GRule) : a5Y [(true, [.sl false [.i .i64 0, .s [], .i .i64 0] (p_Decls.map GDecl.cells), .sl false [.i .i64 0, .s [], .sl false [.s [], .i .i64 0, .s []] [], .sl false [.i .i64 0, .s [], .sl false [.s [], .i .i64 0, .s []] [], .i .i64 0, .s [], .i .i64 0, .s [], .s [], .i .i64 0, .s []] []] (p_Rules.map (GRule.cells false false))])] = some (True, [], .one (false, [.b (b0B (GProgram.mk p_Decls p_Rules))])) := c4 _ (by rintro ⟨_, _⟩ ⟨_, _⟩ h; simp at h; simp_all) (GProgram.mk p_Decls p_Rules)
theorem b2k : OkC Tryz.prog 26 a5Y := c5 _
end Go.Aw
