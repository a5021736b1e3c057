/- The law of good programs. No condition. -/
import Derived.Test.YthlbadfickhkfaaGreatzbT19
import Derived.Test.YthlbadfickhkfaaGreatzbB3
namespace Go.Aw
open Go.Proofs
attribute [local irreducible] aft blk lpK retK AW SpecO
set_option linter.unusedVariables false
set_option linter.unusedSimpArgs false
set_option maxRecDepth 100000
def ac_laws_FnExactGood : ACode := q' ([o' 1 (.box 2 (.t 0)), b' 2 false]) (q' ([z' 3 1048576]) (q' ([e' 7 2 1, m' 8 3, c' 9 12 [7, 8], m' 3 9]) (.seq (q' ([m' 10 3, o' 11 (.bin .lss (.t 10) (k'
  0))]) (.cond (.t 11) (q' ([b' 2 true]) .ret) .skip)) (q' ([e' 12 2 1, c' 13 14 [12], c' 14 26 [13], m' 4 14]) (q' ([e' 15 2 1, c' 16 14 [15], w' 5 [.sl [.i
  .i64 0, .s [], .i .i64 0], .sl [.i .i64 0, .s [], .sl false [.s [], .i .i64 0, .s []] [], .sl false [.i .i64 0, .s [], .sl false [.s [], .i .i64 0, .s []] [],
  .i .i64 0, .s [], .i .i64 0, .s [], .s [], .i .i64 0, .s []] []]], s' 2 5 16]) (q' ([e' 17 2 5, c' 18 27 [17], m' 6 18]) (.seq (q' ([m' 19 6, m' 20 4, o' 21
  (.binb .neq (.t 19) (.t 20))]) (.cond (.t 21) (q' ([b' 2 false]) .ret) .skip)) (.seq (.seq (.reg true [e' 22 2 5, e' 23 2 1, c' 24 14 [23], c' 25 17 [22, 24],
  o' 26 (.not (.t 25))]) (.cond (.t 26) (q' ([b' 2 false]) .ret) .skip)) (q' ([b' 2 true]) .ret)))))))))
theorem hc_laws_FnExactGood : Tryz.f5.body.bind (comp Tryz.prog Tryz.f5.ntmps) = some ac_laws_FnExactGood := by kernel_rfl
theorem k_laws_FnExactGood (p : GProgram) : SpecO Tryz.prog 5 [(true, [.sl false [.i .i64 0, .s [], .i .i64 0] (p.Decls.map GDecl.cells), .sl false [.i .i64 0, .s [], .sl false [.s [], .i .i64 0, .s []] [], .sl false [.i .i64 0, .s [], .sl false [.s [], .i .i64 0, .s []] [], .i .i64 0, .s [], .i .i64 0, .s [], .s [], .i .i64 0, .s []] []] (p.Rules.map (GRule.cells false false))])] [] (.one (false, [.b true])) := by
  refine spec_of2 false false none Tryz.func5 hc_laws_FnExactGood (rvs := [.t 2]) (hΓ := mkCtx_ok (deep := false) (l := [(12, [], c_laws_szProgram), (14, [], c_laws_toProgram), (26, [], c_spec_Good), (27, [], c_impl_Good), (17, [], c_laws_eqProgram)]) ⟨c_laws_szProgram_ok, c_laws_toProgram_ok, c_spec_Good_ok, c_impl_Good_ok, c_laws_eqProgram_ok, trivial⟩) (h := ?_)
  intro hb hE
  simp only [go_sem] at hb
  dsimp only [ac_laws_FnExactGood, List.map_cons, List.map_nil, m', f', l', e', n', z', b', a', r', s', i', w', c', o', k', g', q']
  (try refine AX_AW ?_); simp only [go_sem]; (repeat' first | apply CJ.mk | intro hc); all_goals try ((repeat' first | apply And.intro | intro hs) <;> (try simp only [go_sem, Bool.and_eq_false_iff] at hs) <;> omega)
  all_goals (first | exact (hc trivial).elim | (exfalso; simp at hc; done) | ((try simp only [szR] at *) <;> omega) | trace_state)
noncomputable def c_laws_FnExactGood : List V → Option (Prop × List (Nat × V) × R) := famQ (fun (x : GProgram) => k_laws_FnExactGood x)
@[go_sem] theorem c_laws_FnExactGood_eq (p_Decls : List GDecl) (p_Rules : List GRule) : c_laws_FnExactGood [(true, [.sl false [.i .i64 0, .s [], .i .i64 0] (p_Decls.map GDecl.cells), .sl false [.i .i64 0, .s [], .sl false [.s [], .i .i64 0, .s []] [], .sl false [.i .i64 0, .s [], .sl false [.s [], .i .i64 0, .s []] [], .i .i64 0, .s [], .i .i64 0, .s [], .s [], .i .i64 0, .s []] []] (p_Rules.map (GRule.cells false false))])] = some (True, [], .one (false, [.b true])) := famQ_eq _ (by rintro ⟨_, _⟩ ⟨_, _⟩ h; simp at h; simp_all) (GProgram.mk p_Decls p_Rules)
theorem c_laws_FnExactGood_ok : ∀ vs q o r, c_laws_FnExactGood vs = some (q, o, r) → q → SpecO Tryz.prog 5 vs o r := famQ_ok _
end Go.Aw
