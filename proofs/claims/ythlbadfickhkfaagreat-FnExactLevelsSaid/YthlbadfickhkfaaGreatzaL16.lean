/- The law of levels. No condition. -/
import Derived.Test.YthlbadfickhkfaaGreatzaT15
import Derived.Test.YthlbadfickhkfaaGreatzaT18
import Derived.Test.YthlbadfickhkfaaGreatzaB3
import Derived.Test.YthlbadfickhkfaaGreatzaM5
import Derived.Test.YthlbadfickhkfaaGreatzaM6
namespace Go.Aw
open Go.Proofs
attribute [local irreducible] aft blk lpK retK AW SpecO
set_option linter.unusedVariables false
set_option linter.unusedSimpArgs false
set_option maxRecDepth 100000
theorem cntLit_le (x : GLit) : cntLit x ≤ 12 + 12 * totLit x := by simp only [cntLit, totLit, totAtom]; omega
theorem cntRule_bd (l : List GRule) : tots cntRule l ≤ 12 * (l.length + tots totRule l) := tots_bd cntRule totRule 12 (fun x => by
  have := tots_bd cntLit totLit 12 cntLit_le x.Body
  simp only [cntRule, totRule, totAtom]; omega) l
theorem levels_len (p : GProgram) : (levelsR p).1.length ≤ p.Decls.length := by
  have h1 := puts_len sLt (vwN p) []
  have h2 : (vwN p).length ≤ p.Decls.length := by rw [vwN, List.length_map]; exact List.length_filter_le _ _
  have h3 : (levelsR p).1.length ≤ (vwS p).length := by
    rw [levelsR]
    cases (checkNames p).1 == 0 with
    | false => exact Nat.zero_le _
    | true =>
      rw [cond_true]
      split
      · simp [lvl]
      · exact Nat.zero_le _
  simp only [List.length_nil] at h1
  have h4 : (vwS p).length = (putsS sLt [] (vwN p)).length := rfl
  omega
set_option maxHeartbeats 2000000
def ac_laws_FnExactLevels : ACode := q' ([o' 1 (.box 2 (.t 0)), b' 2 false]) (q' ([z' 3 1048576]) (q' ([e' 14 2 1, m' 15 3, c' 16 12 [14, 15], m' 3 16]) (.seq (q' ([m' 17 3, o' 18 (.bin .lss (.t
  17) (k' 0))]) (.cond (.t 18) (q' ([b' 2 true]) .ret) .skip)) (q' ([e' 20 2 1, c' 21 14 [20], c' 22 21 [21], m' 19 22, o' 23 (.ext (.t 19) 0), o' 24 (.ext (.t
  19) 1), m' 4 23, m' 5 24]) (q' ([e' 25 2 1, c' 26 14 [25], w' 6 [.sl [.i .i64 0, .s [], .i .i64 0], .sl [.i .i64 0, .s [], .sl false [.s [], .i .i64 0, .s []]
  [], .sl false [.i .i64 0, .s [], .sl false [.s [], .i .i64 0, .s []] [], .i .i64 0, .s [], .i .i64 0, .s [], .s [], .i .i64 0, .s []] []]], s' 2 6 26]) (q'
  ([e' 28 2 6, c' 29 22 [28], m' 27 29, o' 30 (.ext (.t 27) 0), o' 31 (.ext (.t 27) 1), m' 7 30, m' 8 31]) (.seq (q' ([m' 32 7, m' 33 4, c' 34 23 [32, 33], o'
  35 (.not (.t 34)), m' 36 35, ⟨some 37, .mov (.t 8), some (36, false)⟩, ⟨some 38, .mov (.t 5), some (36, false)⟩, ⟨some 39, .binb .neq (.t 37) (.t 38), some
  (36, false)⟩, o' 40 (.pick (.t 36) (.k (.v false [.c (.b true)])) (.t 39))]) (.cond (.t 40) (q' ([b' 2 false]) .ret) .skip)) (.seq (.seq (.reg true [e' 41 2
  6, e' 42 2 1, c' 43 14 [42], c' 44 17 [41, 43], o' 45 (.not (.t 44))]) (.cond (.t 45) (q' ([b' 2 false]) .ret) .skip)) (q' ([z' 9 1]) (q' ([e' 46 2 6, m' 47
  9, c' 48 18 [46, 47], m' 9 48]) (.seq (q' ([m' 49 9, o' 50 (.bin .lss (.t 49) (k' 0)), m' 51 50, ⟨some 52, .mov (.t 7), some (51, false)⟩, ⟨some 53, .mov (.t
  4), some (51, false)⟩, ⟨some 54, .call 23 [.t 52, .t 53], some (51, false)⟩, ⟨some 55, .not (.t 54), some (51, false)⟩, o' 56 (.pick (.t 51) (.k (.v false [.c
  (.b true)])) (.t 55)), m' 57 56, ⟨some 58, .mov (.t 8), some (57, false)⟩, ⟨some 59, .mov (.t 5), some (57, false)⟩, ⟨some 60, .binb .neq (.t 58) (.t 59),
  some (57, false)⟩, o' 61 (.pick (.t 57) (.k (.v false [.c (.b true)])) (.t 60))]) (.cond (.t 61) (q' ([b' 2 false]) .ret) .skip)) (q' ([z' 10 1]) (q' ([m' 62
  7, m' 63 10, c' 64 24 [62, 63], m' 10 64]) (q' ([z' 11 1]) (q' ([m' 65 7, m' 66 11, c' 67 25 [65, 66], m' 11 67]) (.seq (q' ([m' 68 11, o' 69 (.bin .lss (.t
  68) (k' 0))]) (.cond (.t 69) (q' ([b' 2 false]) .ret) .skip)) (.seq (q' ([m' 70 11, m' 71 10, o' 72 (.bin .neq (.t 70) (.t 71))]) (.cond (.t 72) (q' ([b' 2
  false]) .ret) .skip)) (q' ([e' 74 2 1, c' 75 14 [74], c' 76 22 [75], m' 73 76, o' 77 (.ext (.t 73) 0), o' 78 (.ext (.t 73) 1), m' 12 77, m' 13 78]) (.seq (q'
  ([m' 79 12, m' 80 4, c' 81 23 [79, 80], o' 82 (.not (.t 81)), m' 83 82, ⟨some 84, .mov (.t 13), some (83, false)⟩, ⟨some 85, .mov (.t 5), some (83, false)⟩,
  ⟨some 86, .binb .neq (.t 84) (.t 85), some (83, false)⟩, o' 87 (.pick (.t 83) (.k (.v false [.c (.b true)])) (.t 86))]) (.cond (.t 87) (q' ([b' 2 false])
  .ret) .skip)) (q' ([z' 11 1]) (q' ([m' 88 7, m' 89 11, c' 90 25 [88, 89], m' 11 90]) (.seq (q' ([m' 91 11, o' 92 (.bin .lss (.t 91) (k' 0))]) (.cond (.t 92)
  (q' ([b' 2 false]) .ret) .skip)) (.seq (q' ([m' 93 11, m' 94 10, o' 95 (.bin .neq (.t 93) (.t 94))]) (.cond (.t 95) (q' ([b' 2 false]) .ret) .skip)) (q' ([b'
  2 true]) .ret))))))))))))))))))))))))
theorem hc_laws_FnExactLevels : Tryz.f4.body.bind (comp Tryz.prog Tryz.f4.ntmps) = some ac_laws_FnExactLevels := by kernel_rfl
theorem k_laws_FnExactLevels (p : GProgram) : SpecO Tryz.prog 4 [(true, [.sl false [.i .i64 0, .s [], .i .i64 0] (p.Decls.map GDecl.cells), .sl false [.i .i64 0, .s [], .sl false [.s [], .i .i64 0, .s []] [], .sl false [.i .i64 0, .s [], .sl false [.s [], .i .i64 0, .s []] [], .i .i64 0, .s [], .i .i64 0, .s [], .s [], .i .i64 0, .s []] []] (p.Rules.map (GRule.cells false false))])] [] (.one (false, [.b true])) := by
  refine spec_of2 true false none Tryz.func4 hc_laws_FnExactLevels (rvs := [.t 2]) (hΓ := mkCtx_ok (deep := true) (l := [(12, [], c_laws_szProgram), (14, [], c_laws_toProgram), (21, [], c_spec_Levels), (22, [], c_impl_Levels), (23, [], c_laws_eqLevelS), (17, [], c_laws_eqProgram), (18, [0], c_laws_markProgram), (24, [0], c_laws_markLevelS), (25, [], c_laws_heldLevelS)]) ⟨c_laws_szProgram_ok, c_laws_toProgram_ok, c_spec_Levels_ok, c_impl_Levels_ok, c_laws_eqLevelS_ok, c_laws_eqProgram_ok, c_laws_markProgram_ok, c_laws_markLevelS_ok, c_laws_heldLevelS_ok, trivial⟩) (h := ?_)
  intro hb hE
  simp only [go_sem] at hb
  dsimp only [ac_laws_FnExactLevels, List.map_cons, List.map_nil, m', f', l', e', n', z', b', a', r', s', i', w', c', o', k', g', q']
  (try refine AX_AW ?_); simp only [go_sem]; (repeat' first | apply CJ.mk | intro hc); all_goals try ((repeat' first | apply And.intro | intro hs) <;> (try simp only [go_sem, Bool.and_eq_false_iff] at hs) <;> omega)
  all_goals have h6 := levels_len p
  all_goals have h7 := cntRule_bd p.Rules
  all_goals (try rw [markLLevel_len] at hc)
  all_goals first
    | exact (hc trivial).elim
    | (exfalso; simp at hc; done)
    | (exfalso; rcases hc with h | h; · omega
       exact h trivial)
    | (simp only [szR, totProgram, markLLevel_len] at *; omega)
    | (simp only [szR, totProgram, markLLevel_len] at *; refine ⟨by omega, ?_⟩; trivial)
    | trace_state
noncomputable def c_laws_FnExactLevels : List V → Option (Prop × List (Nat × V) × R) := famQ (fun (x : GProgram) => k_laws_FnExactLevels x)
@[go_sem] theorem c_laws_FnExactLevels_eq (p_Decls : List GDecl) (p_Rules : List GRule) : c_laws_FnExactLevels [(true, [.sl false [.i .i64 0, .s [], .i .i64 0] (p_Decls.map GDecl.cells), .sl false [.i .i64 0, .s [], .sl false [.s [], .i .i64 0, .s []] [], .sl false [.i .i64 0, .s [], .sl false [.s [], .i .i64 0, .s []] [], .i .i64 0, .s [], .i .i64 0, .s [], .s [], .i .i64 0, .s []] []] (p_Rules.map (GRule.cells false false))])] = some (True, [], .one (false, [.b true])) := famQ_eq _ (by rintro ⟨_, _⟩ ⟨_, _⟩ h; simp at h; simp_all) (GProgram.mk p_Decls p_Rules)
theorem c_laws_FnExactLevels_ok : ∀ vs q o r, c_laws_FnExactLevels vs = some (q, o, r) → q → SpecO Tryz.prog 4 vs o r := famQ_ok _
end Go.Aw
