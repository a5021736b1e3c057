/- Good programs. No condition. -/
import Derived.Test.YthlbadfickhkfaaGreatzeT15
import Derived.Test.YthlbadfickhkfaaGreatzeT18
import Derived.Test.YthlbadfickhkfaaGreatzeT9
namespace Go.Aw
open Go.Proofs
attribute [local irreducible] aft blk lpK retK AW A0n
set_option linter.unusedVariables false
set_option linter.unusedSimpArgs false
set_option maxRecDepth 100000
noncomputable def a7g (p : GProgram) : Bool := (n9 p).2 && t2 p == -1
theorem b0m {p : GProgram} (h : (n9 p).2 = true) : ((c8 p).1 == 0) = true := by
 cases e : ((c8 p).1 == 0) with
 | true => rfl
 | false => rw [n9, e, cond_false] at h; exact h
theorem a7h {p : GProgram} (h : a7g p = true) : ((c8 p).1 == 0) = true := by
 rw [a7g, Bool.and_eq_true] at h
 exact b0m h.1
def a8V : ACode := q' ([o' 1 (.box 2 (.t 0)), b' 2 false]) (q' ([e' 6 2 1, c' 7 22 [6], m' 5 7, o' 8 (.ext (.t 5) 0), o' 9 (.ext (.t 5) 1), m' 3 8, m' 4 9]) (q' ([m' 10 4, m' 11
 10, ⟨some 12, .ld true 2 (.t 1), some (11, true)⟩, ⟨some 13, .call 87 [.t 12], some (11, true)⟩, ⟨some 14, .bin .eql (.t 13) (.k (.v false [.c (.i .i64
 (-1))])), some (11, true)⟩, o' 15 (.pick (.t 11) (.t 14) (.k (.v false [.c (.b false)]))), m' 2 15]) .ret))
theorem b7u : cmp Tryz.prog Tryz.f27 = some a8V := by kernel_rfl
theorem b9a (p : GProgram) : A0n Tryz.prog 27 [(true, [.sl false [.i .i64 0, .s [], .i .i64 0] (p.Decls.map GDecl.cells), .sl false [.i .i64 0, .s [], .sl false [.s [], .i .i64 0, .s []] [], .sl false [.i .i64 0, .s [], .sl false [.s [], .i .i64 0, .s []] [], .i .i64 0, .s [], .i .i64 0, .s [], .s [], .i .i64 0, .s []] []] (p.Rules.map (GRule.cells false false))])] [] (.one (false, [.b (a7g p)])) := by
 refine spec_of2 false false none Tryz.func27 b7u (rvs := [.t 2]) (hΓ := mkCtx_ok (deep := false) (l := [(22, [], a3A), (87, [], a0v)]) ⟨b0I, a7v, trivial⟩) (h := ?_)
 intro hb hE
 simp only [go_sem] at hb
 simp only [a8V, x']
 (try refine A2X ?_); simp only [go_sem]; (repeat' first | apply CJ.mk | intro hc); all_goals try ((repeat' first | apply And.intro | intro hs) <;> (try simp only [go_sem, Bool.and_eq_false_iff] at hs) <;> omega)
 all_goals (first | rfl | trace_state)
noncomputable def a6T : CT := d7 (fun (x : GProgram) => b9a x)
@[go_sem] theorem c4I (p_Decls : List GDecl) (p_Rules : List GRule) : a6T [(true, [.sl false [.i .i64 0, .s [], .i .i64 0] (p_Decls.map GDecl.cells), .sl false [.i .i64 0, .s [], .sl false [.s [], .i .i64 0, .s []] [], .sl false [.i .i64 0, .s [], .sl false [.s [], .i .i64 0, .s []] [], .i .i64 0, .s [], .i .i64 0, .s [], .s [], .i .i64 0, .s []] []] (p_Rules.map (GRule.cells false false))])] = some (True, [], .one (false, [.b (a7g (GProgram.mk p_Decls p_Rules))])) := c4 _ (by rintro ⟨_, _⟩ ⟨_, _⟩ h; simp at h; simp_all) (GProgram.mk p_Decls p_Rules)
theorem b3T : OkC Tryz.prog 27 a6T := c5 _
def a8Y : ACode := q' ([o' 1 (.box 2 (.t 0)), b' 2 false]) (q' ([e' 8 2 1, c' 9 62 [8], m' 7 9, o' 10 (.ext (.t 7) 0), o' 11 (.ext (.t 7) 1), m' 3 10, m' 4 11]) (q' ([e' 13 2 1,
 c' 14 21 [13], m' 12 14, o' 15 (.ext (.t 12) 0), o' 16 (.ext (.t 12) 1), m' 5 15, m' 6 16]) (q' ([m' 17 3, o' 18 (.bin .eql (.t 17) (k' 0)), m' 19 18, ⟨some
 20, .ld true 2 (.t 1), some (19, true)⟩, ⟨some 21, .call 86 [.t 20], some (19, true)⟩, ⟨some 22, .bin .eql (.t 21) (.k (.v false [.c (.i .i64 (-1))])), some
 (19, true)⟩, o' 23 (.pick (.t 19) (.t 22) (.k (.v false [.c (.b false)]))), m' 24 23, ⟨some 25, .mov (.t 6), some (24, true)⟩, o' 26 (.pick (.t 24) (.t 25)
 (.k (.v false [.c (.b false)]))), m' 2 26]) .ret)))
theorem b7x : cmp Tryz.prog Tryz.f26 = some a8Y := by kernel_rfl
theorem b9d (p : GProgram) : A0n Tryz.prog 26 [(true, [.sl false [.i .i64 0, .s [], .i .i64 0] (p.Decls.map GDecl.cells), .sl false [.i .i64 0, .s [], .sl false [.s [], .i .i64 0, .s []] [], .sl false [.i .i64 0, .s [], .sl false [.s [], .i .i64 0, .s []] [], .i .i64 0, .s [], .i .i64 0, .s [], .s [], .i .i64 0, .s []] []] (p.Rules.map (GRule.cells false false))])] [] (.one (false, [.b (a7g p)])) := by
 refine spec_of2 false false none Tryz.func26 b7x (rvs := [.t 2]) (hΓ := mkCtx_ok (deep := false) (l := [(62, [], o7), (21, [], a3L), (86, [], a0H)]) ⟨u1, b0U, a7H, trivial⟩) (h := ?_)
 intro hb hE
 simp only [go_sem] at hb
 simp only [a8Y, x']
 (try refine A2X ?_); simp only [go_sem]; (repeat' first | apply CJ.mk | intro hc); all_goals try ((repeat' first | apply And.intro | intro hs) <;> (try simp only [go_sem, Bool.and_eq_false_iff] at hs) <;> omega)
 all_goals (first | (rw [a7g]; cases h1 : ((c8 p).1 == 0) <;> cases h2 : (n9 p).2 <;> cases h3 : (t2 p == -1) <;> first | rfl | (rw [b0m h2] at h1; cases h1)) | trace_state)
noncomputable def a7a : CT := d7 (fun (x : GProgram) => b9d x)
@[go_sem] theorem c4L (p_Decls : List GDecl) (p_Rules : List GRule) : a7a [(true, [.sl false [.i .i64 0, .s [], .i .i64 0] (p_Decls.map GDecl.cells), .sl false [.i .i64 0, .s [], .sl false [.s [], .i .i64 0, .s []] [], .sl false [.i .i64 0, .s [], .sl false [.s [], .i .i64 0, .s []] [], .i .i64 0, .s [], .i .i64 0, .s [], .s [], .i .i64 0, .s []] []] (p_Rules.map (GRule.cells false false))])] = some (True, [], .one (false, [.b (a7g (GProgram.mk p_Decls p_Rules))])) := c4 _ (by rintro ⟨_, _⟩ ⟨_, _⟩ h; simp at h; simp_all) (GProgram.mk p_Decls p_Rules)
theorem b3V : OkC Tryz.prog 26 a7a := c5 _
end Go.Aw
