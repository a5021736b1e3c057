/- Good programs. No condition. -/
import Derived.Test.YthlbadfickhkfaaGreatzdT15
import Derived.Test.YthlbadfickhkfaaGreatzdT18
import Derived.Test.YthlbadfickhkfaaGreatzdT9
namespace Go.Aw
open Go.Proofs
attribute [local irreducible] aft blk lpK retK AW A0l
set_option linter.unusedVariables false
set_option linter.unusedSimpArgs false
set_option maxRecDepth 100000
noncomputable def a8Z (p : GProgram) : Bool := (m0 p).2 && p6 p == -1
theorem a9z {p : GProgram} (h : (m0 p).2 = true) : ((c7 p).1 == 0) = true := by
 cases e : ((c7 p).1 == 0) with
 | true => rfl
 | false => rw [m0, e, cond_false] at h; exact h
theorem b7T {p : GProgram} (h : a8Z p = true) : ((c7 p).1 == 0) = true := by
 rw [a8Z, Bool.and_eq_true] at h
 exact a9z h.1
def a8r : ACode := q' ([o' 1 (.box 2 (.t 0)), b' 2 false]) (q' ([e' 6 2 1, c' 7 22 [6], m' 5 7, o' 8 (.ext (.t 5) 0), o' 9 (.ext (.t 5) 1), m' 3 8, m' 4 9]) (q' ([m' 10 4, m' 11
 10, ⟨some 12, .ld true 2 (.t 1), some (11, true)⟩, ⟨some 13, .call 87 [.t 12], some (11, true)⟩, ⟨some 14, .bin .eql (.t 13) (.k (.v false [.c (.i .i64
 (-1))])), some (11, true)⟩, o' 15 (.pick (.t 11) (.t 14) (.k (.v false [.c (.b false)]))), m' 2 15]) .ret))
theorem b6B : cmp Tryz.prog Tryz.f27 = some a8r := by kernel_rfl
theorem b8g (p : GProgram) : A0l Tryz.prog 27 [(true, [.sl false [.i .i64 0, .s [], .i .i64 0] (p.Decls.map GDecl.cells), .sl false [.i .i64 0, .s [], .sl false [.s [], .i .i64 0, .s []] [], .sl false [.i .i64 0, .s [], .sl false [.s [], .i .i64 0, .s []] [], .i .i64 0, .s [], .i .i64 0, .s [], .s [], .i .i64 0, .s []] []] (p.Rules.map (GRule.cells false false))])] [] (.one (false, [.b (a8Z p)])) := by
 refine spec_of2 false false none Tryz.func27 b6B (rvs := [.t 2]) (hΓ := mkCtx_ok (deep := false) (l := [(22, [], a2V), (87, [], a0d)]) ⟨a9Q, a6O, trivial⟩) (h := ?_)
 intro hb hE
 simp only [go_sem] at hb
 simp only [a8r, x']
 (try refine A2V ?_); simp only [go_sem]; (repeat' first | apply CJ.mk | intro hc); all_goals try ((repeat' first | apply And.intro | intro hs) <;> (try simp only [go_sem, Bool.and_eq_false_iff] at hs) <;> omega)
 all_goals (first | rfl | trace_state)
noncomputable def a6m : CT := c8 (fun (x : GProgram) => b8g x)
@[go_sem] theorem c3K (p_Decls : List GDecl) (p_Rules : List GRule) : a6m [(true, [.sl false [.i .i64 0, .s [], .i .i64 0] (p_Decls.map GDecl.cells), .sl false [.i .i64 0, .s [], .sl false [.s [], .i .i64 0, .s []] [], .sl false [.i .i64 0, .s [], .sl false [.s [], .i .i64 0, .s []] [], .i .i64 0, .s [], .i .i64 0, .s [], .s [], .i .i64 0, .s []] []] (p_Rules.map (GRule.cells false false))])] = some (True, [], .one (false, [.b (a8Z (GProgram.mk p_Decls p_Rules))])) := c4 _ (by rintro ⟨_, _⟩ ⟨_, _⟩ h; simp at h; simp_all) (GProgram.mk p_Decls p_Rules)
theorem b2Q : OkC Tryz.prog 27 a6m := c5 _
def a8u : ACode := q' ([o' 1 (.box 2 (.t 0)), b' 2 false]) (q' ([e' 8 2 1, c' 9 62 [8], m' 7 9, o' 10 (.ext (.t 7) 0), o' 11 (.ext (.t 7) 1), m' 3 10, m' 4 11]) (q' ([e' 13 2 1,
 c' 14 21 [13], m' 12 14, o' 15 (.ext (.t 12) 0), o' 16 (.ext (.t 12) 1), m' 5 15, m' 6 16]) (q' ([m' 17 3, o' 18 (.bin .eql (.t 17) (k' 0)), m' 19 18, ⟨some
 20, .ld true 2 (.t 1), some (19, true)⟩, ⟨some 21, .call 86 [.t 20], some (19, true)⟩, ⟨some 22, .bin .eql (.t 21) (.k (.v false [.c (.i .i64 (-1))])), some
 (19, true)⟩, o' 23 (.pick (.t 19) (.t 22) (.k (.v false [.c (.b false)]))), m' 24 23, ⟨some 25, .mov (.t 6), some (24, true)⟩, o' 26 (.pick (.t 24) (.t 25)
 (.k (.v false [.c (.b false)]))), m' 2 26]) .ret)))
theorem b6E : cmp Tryz.prog Tryz.f26 = some a8u := by kernel_rfl
theorem b8j (p : GProgram) : A0l Tryz.prog 26 [(true, [.sl false [.i .i64 0, .s [], .i .i64 0] (p.Decls.map GDecl.cells), .sl false [.i .i64 0, .s [], .sl false [.s [], .i .i64 0, .s []] [], .sl false [.i .i64 0, .s [], .sl false [.s [], .i .i64 0, .s []] [], .i .i64 0, .s [], .i .i64 0, .s [], .s [], .i .i64 0, .s []] []] (p.Rules.map (GRule.cells false false))])] [] (.one (false, [.b (a8Z p)])) := by
 refine spec_of2 false false none Tryz.func26 b6E (rvs := [.t 2]) (hΓ := mkCtx_ok (deep := false) (l := [(62, [], p8), (21, [], a3g), (86, [], a0k)]) ⟨a0K, b0c, a6V, trivial⟩) (h := ?_)
 intro hb hE
 simp only [go_sem] at hb
 simp only [a8u, x']
 (try refine A2V ?_); simp only [go_sem]; (repeat' first | apply CJ.mk | intro hc); all_goals try ((repeat' first | apply And.intro | intro hs) <;> (try simp only [go_sem, Bool.and_eq_false_iff] at hs) <;> omega)
 all_goals (first | (rw [a8Z]; cases h1 : ((c7 p).1 == 0) <;> cases h2 : (m0 p).2 <;> cases h3 : (p6 p == -1) <;> first | rfl | (rw [a9z h2] at h1; cases h1)) | trace_state)
noncomputable def a6u : CT := c8 (fun (x : GProgram) => b8j x)
@[go_sem] theorem c3N (p_Decls : List GDecl) (p_Rules : List GRule) : a6u [(true, [.sl false [.i .i64 0, .s [], .i .i64 0] (p_Decls.map GDecl.cells), .sl false [.i .i64 0, .s [], .sl false [.s [], .i .i64 0, .s []] [], .sl false [.i .i64 0, .s [], .sl false [.s [], .i .i64 0, .s []] [], .i .i64 0, .s [], .i .i64 0, .s [], .s [], .i .i64 0, .s []] []] (p_Rules.map (GRule.cells false false))])] = some (True, [], .one (false, [.b (a8Z (GProgram.mk p_Decls p_Rules))])) := c4 _ (by rintro ⟨_, _⟩ ⟨_, _⟩ h; simp at h; simp_all) (GProgram.mk p_Decls p_Rules)
theorem b2S : OkC Tryz.prog 26 a6u := c5 _
end Go.Aw
