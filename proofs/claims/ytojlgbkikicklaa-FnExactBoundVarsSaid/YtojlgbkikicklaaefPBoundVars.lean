/- The statement on BoundVars. No condition. -/
import Derived.Test.YtojlgbkikicklaaRows
import Derived.Test.YtojlgbkikicklaaefL11
import Derived.Test.YtojlgbkikicklaadBwd
import Derived.ProofKit
namespace Go.Proofs.Ytojlgbkikicklaa.fnExactBoundVars
set_option linter.unusedVariables false
open Go.Aw Go.RowKit
attribute [local irreducible] Go.Aw.SpecO
theorem own : ownKnob Try.prog.godebug = none := by kernel_rfl
theorem contract : ∀ Vs, VsHas ([(true, [.i .i64, .s, .sl [.s, .i .i64, .s], .sl [.i .i64, .s, .sl [.s, .i .i64, .s], .i .i64, .s, .i .i64, .s, .s, .i .i64, .s]])] : List (Bool × List Sh)) Vs → Go.Aw.SpecO Try.prog 10 Vs [] (.one (false, [.b true])) := by
  intro Vs h
  obtain ⟨_, _, rfl, h0, g0⟩ := vsC h
  obtain ⟨a0, rfl⟩ := GRule_of h0
  obtain rfl := vsN g0
  exact k_laws_FnExactBoundVars a0
set_option maxRecDepth 100000 in
theorem lifted (os : Os) (started : os.Started) (H : Type) (enc : TypeId × Value → H) :
    ReturnsInHanded {} Try.checked os 10 .any (Rows.fnExactBoundVarsSpec.pre6 enc Try.prog Try.f10 Rows.fnExactBoundVarsRow.domain false) (Rows.fnExactBoundVarsSpec.post enc Try.prog Try.f10 false true false false) := by
  refine returnsInHanded_of_change (C := Try.checked) own started (by kernel_rfl) Try.func10
    (ChangeSpec.witness6 (enc := enc) (C := Try.checked) false ⟨#[], #[.agg #[.int .i64 0, .string ⟨#[]⟩, .slice none 0 0, .slice none 0 0]], []⟩ 24 (by kernel_rfl) (by kernel_rfl) (by kernel_rfl) (by kernel_rfl)) ?_
  intro W base args ds gs before hval hW _ _
  exact law_post (n := 24) (ps := [(true, [.i .i64, .s, .sl [.s, .i .i64, .s], .sl [.i .i64, .s, .sl [.s, .i .i64, .s], .i .i64, .s, .i .i64, .s, .s, .i .i64, .s]])]) (by kernel_rfl) rfl (by kernel_rfl) Try.underlying4 (fun ds hl => by
    match ds, hl with
    | [d0], _ => exact ⟨rfl, rfl, rfl⟩) contract W base args ds gs before hval hW
theorem r1 : Try.pinned.checked.prog.funcNamed Rows.fnExactBoundVarsRow.func = some 10 := by kernel_rfl
theorem q1 : jf1 Try.pinned.checked.prog Try.f10 Rows.fnExactBoundVarsSpec Rows.fnExactBoundVarsRow = true := by kernel_rfl
theorem q2 : jf2 Try.pinned.checked.prog 10 Rows.fnExactBoundVarsRow = true := by kernel_rfl
theorem q3 : jf3 Try.pinned.checked.prog Try.f10 Rows.fnExactBoundVarsSpec Rows.fnExactBoundVarsRow = true := by kernel_rfl
theorem q4 : jf4 Try.pinned.checked.prog Try.f10 Rows.fnExactBoundVarsSpec Rows.fnExactBoundVarsRow = true := by kernel_rfl
theorem q5 : jf5 Try.pinned.checked.prog = true := by kernel_rfl
theorem q6 : jf6 Try.pinned.checked.prog = true := by kernel_rfl
theorem q7 : jf7 Try.pinned.checked.prog Rows.fnExactBoundVarsRow = true := by kernel_rfl
theorem q8 : jf8 Try.pinned.checked.prog Try.f10 Rows.fnExactBoundVarsRow = true := by kernel_rfl
theorem q9 : jf9 Try.pinned.checked.prog Try.f10 Rows.fnExactBoundVarsSpec Rows.fnExactBoundVarsRow = true := by kernel_rfl
theorem r2 : joinedFacts Try.pinned.checked.prog 10 Try.f10 Rows.fnExactBoundVarsSpec Rows.fnExactBoundVarsRow = true := joined_of _ _ _ _ _ q1 q2 q3 q4 q5 q6 q7 q8 q9
theorem r3 : Try.f10.isInstance Try.pinned.checked.prog Rows.fnExactBoundVarsRow.origin Rows.fnExactBoundVarsRow.targs := of_decide_eq_true (by kernel_rfl)
theorem r4 : Try.f10.isWrapper Try.pinned.checked.prog Rows.fnExactBoundVarsRow.wrapper Rows.fnExactBoundVarsRow.mainSum := by unfold Func.isWrapper; first | (rw [if_pos (by decide +kernel)]; kernel_rfl) | (rw [if_neg (by decide +kernel)]; exact ⟨rfl, rfl⟩)
theorem said : Rows.FnExactBoundVarsSaid :=
  OpenClaim.holds_of_wide 10 Try.f10 rfl rfl rfl rfl rfl rfl rfl ⟨rfl, rfl, rfl, rfl, rfl⟩ rfl rfl rfl rfl rfl r1 Try.func10 r2 r3 r4
    (fun os started H enc _ => lifted os started H enc)
#print axioms said
end Go.Proofs.Ytojlgbkikicklaa.fnExactBoundVars
