/- Good programs. No condition. -/
import Derived.Test.YthlbadfickhkfaaGreatzbT15
import Derived.Test.YthlbadfickhkfaaGreatzbT18
import Derived.Test.YthlbadfickhkfaaGreatzbT9
namespace Go.Aw
open Go.Proofs
attribute [local irreducible] aft blk lpK retK AW SpecO
set_option linter.unusedVariables false
set_option linter.unusedSimpArgs false
set_option maxRecDepth 100000
noncomputable def goodB (p : GProgram) : Bool := (levelsR p).2 && checkSafe p == -1
theorem levels_names {p : GProgram} (h : (levelsR p).2 = true) : ((checkNames p).1 == 0) = true := by
  cases e : ((checkNames p).1 == 0) with
  | true => rfl
  | false => rw [levelsR, e, cond_false] at h; exact h
theorem goodB_names {p : GProgram} (h : goodB p = true) : ((checkNames p).1 == 0) = true := by
  rw [goodB, Bool.and_eq_true] at h
  exact levels_names h.1
def ac_impl_Good : ACode := q' ([o' 1 (.box 2 (.t 0)), b' 2 false]) (q' ([e' 6 2 1, c' 7 22 [6], m' 5 7, o' 8 (.ext (.t 5) 0), o' 9 (.ext (.t 5) 1), m' 3 8, m' 4 9]) (q' ([m' 10 4, m' 11
  10, ⟨some 12, .ld true 2 (.t 1), some (11, true)⟩, ⟨some 13, .call 87 [.t 12], some (11, true)⟩, ⟨some 14, .bin .eql (.t 13) (.k (.v false [.c (.i .i64
  (-1))])), some (11, true)⟩, o' 15 (.pick (.t 11) (.t 14) (.k (.v false [.c (.b false)]))), m' 2 15]) .ret))
theorem hc_impl_Good : Tryz.f27.body.bind (comp Tryz.prog Tryz.f27.ntmps) = some ac_impl_Good := by kernel_rfl
theorem k_impl_Good (p : GProgram) : SpecO Tryz.prog 27 [(true, [.sl false [.i .i64 0, .s [], .i .i64 0] (p.Decls.map GDecl.cells), .sl false [.i .i64 0, .s [], .sl false [.s [], .i .i64 0, .s []] [], .sl false [.i .i64 0, .s [], .sl false [.s [], .i .i64 0, .s []] [], .i .i64 0, .s [], .i .i64 0, .s [], .s [], .i .i64 0, .s []] []] (p.Rules.map (GRule.cells false false))])] [] (.one (false, [.b (goodB p)])) := by
  refine spec_of2 false false none Tryz.func27 hc_impl_Good (rvs := [.t 2]) (hΓ := mkCtx_ok (deep := false) (l := [(22, [], c_impl_Levels), (87, [], c_impl_CheckSafe)]) ⟨c_impl_Levels_ok, c_impl_CheckSafe_ok, trivial⟩) (h := ?_)
  intro hb hE
  simp only [go_sem] at hb
  dsimp only [ac_impl_Good, List.map_cons, List.map_nil, m', f', l', e', n', z', b', a', r', s', i', w', c', o', k', g', q']
  (try refine AX_AW ?_); simp only [go_sem]; (repeat' first | apply CJ.mk | intro hc); all_goals try ((repeat' first | apply And.intro | intro hs) <;> (try simp only [go_sem, Bool.and_eq_false_iff] at hs) <;> omega)
  all_goals (first | rfl | trace_state)
noncomputable def c_impl_Good : List V → Option (Prop × List (Nat × V) × R) := famQ (fun (x : GProgram) => k_impl_Good x)
@[go_sem] theorem c_impl_Good_eq (p_Decls : List GDecl) (p_Rules : List GRule) : c_impl_Good [(true, [.sl false [.i .i64 0, .s [], .i .i64 0] (p_Decls.map GDecl.cells), .sl false [.i .i64 0, .s [], .sl false [.s [], .i .i64 0, .s []] [], .sl false [.i .i64 0, .s [], .sl false [.s [], .i .i64 0, .s []] [], .i .i64 0, .s [], .i .i64 0, .s [], .s [], .i .i64 0, .s []] []] (p_Rules.map (GRule.cells false false))])] = some (True, [], .one (false, [.b (goodB (GProgram.mk p_Decls p_Rules))])) := famQ_eq _ (by rintro ⟨_, _⟩ ⟨_, _⟩ h; simp at h; simp_all) (GProgram.mk p_Decls p_Rules)
theorem c_impl_Good_ok : ∀ vs q o r, c_impl_Good vs = some (q, o, r) → q → SpecO Tryz.prog 27 vs o r := famQ_ok _
def ac_spec_Good : ACode := q' ([o' 1 (.box 2 (.t 0)), b' 2 false]) (q' ([e' 8 2 1, c' 9 62 [8], m' 7 9, o' 10 (.ext (.t 7) 0), o' 11 (.ext (.t 7) 1), m' 3 10, m' 4 11]) (q' ([e' 13 2 1,
  c' 14 21 [13], m' 12 14, o' 15 (.ext (.t 12) 0), o' 16 (.ext (.t 12) 1), m' 5 15, m' 6 16]) (q' ([m' 17 3, o' 18 (.bin .eql (.t 17) (k' 0)), m' 19 18, ⟨some
  20, .ld true 2 (.t 1), some (19, true)⟩, ⟨some 21, .call 86 [.t 20], some (19, true)⟩, ⟨some 22, .bin .eql (.t 21) (.k (.v false [.c (.i .i64 (-1))])), some
  (19, true)⟩, o' 23 (.pick (.t 19) (.t 22) (.k (.v false [.c (.b false)]))), m' 24 23, ⟨some 25, .mov (.t 6), some (24, true)⟩, o' 26 (.pick (.t 24) (.t 25)
  (.k (.v false [.c (.b false)]))), m' 2 26]) .ret)))
theorem hc_spec_Good : Tryz.f26.body.bind (comp Tryz.prog Tryz.f26.ntmps) = some ac_spec_Good := by kernel_rfl
theorem k_spec_Good (p : GProgram) : SpecO Tryz.prog 26 [(true, [.sl false [.i .i64 0, .s [], .i .i64 0] (p.Decls.map GDecl.cells), .sl false [.i .i64 0, .s [], .sl false [.s [], .i .i64 0, .s []] [], .sl false [.i .i64 0, .s [], .sl false [.s [], .i .i64 0, .s []] [], .i .i64 0, .s [], .i .i64 0, .s [], .s [], .i .i64 0, .s []] []] (p.Rules.map (GRule.cells false false))])] [] (.one (false, [.b (goodB p)])) := by
  refine spec_of2 false false none Tryz.func26 hc_spec_Good (rvs := [.t 2]) (hΓ := mkCtx_ok (deep := false) (l := [(62, [], c_spec_CheckNames), (21, [], c_spec_Levels), (86, [], c_spec_CheckSafe)]) ⟨c_spec_CheckNames_ok, c_spec_Levels_ok, c_spec_CheckSafe_ok, trivial⟩) (h := ?_)
  intro hb hE
  simp only [go_sem] at hb
  dsimp only [ac_spec_Good, List.map_cons, List.map_nil, m', f', l', e', n', z', b', a', r', s', i', w', c', o', k', g', q']
  (try refine AX_AW ?_); simp only [go_sem]; (repeat' first | apply CJ.mk | intro hc); all_goals try ((repeat' first | apply And.intro | intro hs) <;> (try simp only [go_sem, Bool.and_eq_false_iff] at hs) <;> omega)
  all_goals (first | (rw [goodB]; cases h1 : ((checkNames p).1 == 0) <;> cases h2 : (levelsR p).2 <;> cases h3 : (checkSafe p == -1) <;> first | rfl | (rw [levels_names h2] at h1; cases h1)) | trace_state)
noncomputable def c_spec_Good : List V → Option (Prop × List (Nat × V) × R) := famQ (fun (x : GProgram) => k_spec_Good x)
@[go_sem] theorem c_spec_Good_eq (p_Decls : List GDecl) (p_Rules : List GRule) : c_spec_Good [(true, [.sl false [.i .i64 0, .s [], .i .i64 0] (p_Decls.map GDecl.cells), .sl false [.i .i64 0, .s [], .sl false [.s [], .i .i64 0, .s []] [], .sl false [.i .i64 0, .s [], .sl false [.s [], .i .i64 0, .s []] [], .i .i64 0, .s [], .i .i64 0, .s [], .s [], .i .i64 0, .s []] []] (p_Rules.map (GRule.cells false false))])] = some (True, [], .one (false, [.b (goodB (GProgram.mk p_Decls p_Rules))])) := famQ_eq _ (by rintro ⟨_, _⟩ ⟨_, _⟩ h; simp at h; simp_all) (GProgram.mk p_Decls p_Rules)
theorem c_spec_Good_ok : ∀ vs q o r, c_spec_Good vs = some (q, o, r) → q → SpecO Tryz.prog 26 vs o r := famQ_ok _
end Go.Aw
