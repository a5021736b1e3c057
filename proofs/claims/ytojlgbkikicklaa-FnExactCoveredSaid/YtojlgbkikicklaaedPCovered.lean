/- The statement on Covered. No condition. -/
import Derived.Test.YtojlgbkikicklaaRows
import Derived.Test.YtojlgbkikicklaaedL9
import Derived.Test.YtojlgbkikicklaadBwd
import Derived.ProofKit
namespace Go.Proofs.Ytojlgbkikicklaa.fnExactCovered
set_option linter.unusedVariables false
open Go.Aw Go.RowKit
attribute [local irreducible] Go.Aw.SpecO
theorem own : ownKnob Try.prog.godebug = none := by kernel_rfl
theorem contract : ∀ Vs, VsHas ([(true, [.sl [.s, .i .i64, .sl [.sl [.i .i64, .s]]]]), (false, [.sl [.s, .sl [.i .i64, .s], .i .i64, .sl [.s, .i .i64, .s]]])] : List (Bool × List Sh)) Vs → Go.Aw.SpecO Try.prog 7 Vs [] (.one (false, [.b true])) := by
  intro Vs h
  obtain ⟨_, _, rfl, h0, g0⟩ := vsC h
  obtain ⟨a0, rfl⟩ := GStore_of h0
  obtain ⟨_, _, rfl, h1, g1⟩ := vsC g0
  obtain ⟨r1, _, rfl, k1, l1⟩ := hasL h1
  obtain rfl := hasN l1
  obtain ⟨a1, rfl⟩ := rows_of (fun r hr => GStep_of (k1 r hr))
  obtain rfl := vsN g1
  exact k_laws_FnExactCovered a0 a1
set_option maxRecDepth 100000 in
theorem lifted (os : Os) (started : os.Started) (H : Type) (enc : TypeId × Value → H) :
    ReturnsInHanded {} Try.checked os 7 .any (Rows.fnExactCoveredSpec.pre6 enc Try.prog Try.f7 Rows.fnExactCoveredRow.domain false) (Rows.fnExactCoveredSpec.post enc Try.prog Try.f7 false true false false) := by
  refine returnsInHanded_of_change (C := Try.checked) own started (by kernel_rfl) Try.func7
    (ChangeSpec.witness6 (enc := enc) (C := Try.checked) false ⟨#[], #[.agg #[.slice none 0 0], .slice none 0 0], []⟩ 24 (by kernel_rfl) (by kernel_rfl) (by kernel_rfl) (by kernel_rfl)) ?_
  intro W base args ds gs before hval hW _ _
  exact law_post (n := 24) (ps := [(true, [.sl [.s, .i .i64, .sl [.sl [.i .i64, .s]]]]), (false, [.sl [.s, .sl [.i .i64, .s], .i .i64, .sl [.s, .i .i64, .s]]])]) (by kernel_rfl) rfl (by kernel_rfl) Try.underlying4 (fun ds hl => by
    match ds, hl with
    | [d0, d1], _ => exact ⟨rfl, rfl, rfl⟩) contract W base args ds gs before hval hW
theorem r1 : Try.pinned.checked.prog.funcNamed Rows.fnExactCoveredRow.func = some 7 := by kernel_rfl
theorem q1 : jf1 Try.pinned.checked.prog Try.f7 Rows.fnExactCoveredSpec Rows.fnExactCoveredRow = true := by kernel_rfl
theorem q2 : jf2 Try.pinned.checked.prog 7 Rows.fnExactCoveredRow = true := by kernel_rfl
theorem q3 : jf3 Try.pinned.checked.prog Try.f7 Rows.fnExactCoveredSpec Rows.fnExactCoveredRow = true := by kernel_rfl
theorem q4 : jf4 Try.pinned.checked.prog Try.f7 Rows.fnExactCoveredSpec Rows.fnExactCoveredRow = true := by kernel_rfl
theorem q5 : jf5 Try.pinned.checked.prog = true := by kernel_rfl
theorem q6 : jf6 Try.pinned.checked.prog = true := by kernel_rfl
theorem q7 : jf7 Try.pinned.checked.prog Rows.fnExactCoveredRow = true := by kernel_rfl
theorem q8 : jf8 Try.pinned.checked.prog Try.f7 Rows.fnExactCoveredRow = true := by kernel_rfl
theorem q9 : jf9 Try.pinned.checked.prog Try.f7 Rows.fnExactCoveredSpec Rows.fnExactCoveredRow = true := by kernel_rfl
theorem r2 : joinedFacts Try.pinned.checked.prog 7 Try.f7 Rows.fnExactCoveredSpec Rows.fnExactCoveredRow = true := joined_of _ _ _ _ _ q1 q2 q3 q4 q5 q6 q7 q8 q9
theorem r3 : Try.f7.isInstance Try.pinned.checked.prog Rows.fnExactCoveredRow.origin Rows.fnExactCoveredRow.targs := of_decide_eq_true (by kernel_rfl)
theorem r4 : Try.f7.isWrapper Try.pinned.checked.prog Rows.fnExactCoveredRow.wrapper Rows.fnExactCoveredRow.mainSum := by unfold Func.isWrapper; first | (rw [if_pos (by decide +kernel)]; kernel_rfl) | (rw [if_neg (by decide +kernel)]; exact ⟨rfl, rfl⟩)
theorem said : Rows.FnExactCoveredSaid :=
  OpenClaim.holds_of_wide 7 Try.f7 rfl rfl rfl rfl rfl rfl rfl ⟨rfl, rfl, rfl, rfl, rfl⟩ rfl rfl rfl rfl rfl r1 Try.func7 r2 r3 r4
    (fun os started H enc _ => lifted os started H enc)
#print axioms said
end Go.Proofs.Ytojlgbkikicklaa.fnExactCovered
