/- The statement on LooseVars. No condition. -/
import Derived.Test.YtojlgbkikicklaaRows
import Derived.Test.YtojlgbkikicklaaegL12
import Derived.Test.YtojlgbkikicklaadBwd
import Derived.ProofKit
namespace Go.Proofs.Ytojlgbkikicklaa.fnExactLooseVars
set_option linter.unusedVariables false
open Go.Aw Go.RowKit
attribute [local irreducible] Go.Aw.SpecO
theorem own : ownKnob Try.prog.godebug = none := by kernel_rfl
theorem contract : ∀ Vs, VsHas ([(true, [.i .i64, .s, .sl [.s, .i .i64, .s], .sl [.i .i64, .s, .sl [.s, .i .i64, .s], .i .i64, .s, .i .i64, .s, .s, .i .i64, .s]])] : List (Bool × List Sh)) Vs → Go.Aw.SpecO Try.prog 11 Vs [] (.one (false, [.b true])) := by
  intro Vs h
  obtain ⟨_, _, rfl, h0, g0⟩ := vsC h
  obtain ⟨a0, rfl⟩ := GRule_of h0
  obtain rfl := vsN g0
  exact k_laws_FnExactLooseVars a0
set_option maxRecDepth 100000 in
theorem lifted (os : Os) (started : os.Started) (H : Type) (enc : TypeId × Value → H) :
    ReturnsInHanded {} Try.checked os 11 .any (Rows.fnExactLooseVarsSpec.pre6 enc Try.prog Try.f11 Rows.fnExactLooseVarsRow.domain false) (Rows.fnExactLooseVarsSpec.post enc Try.prog Try.f11 false true false false) := by
  refine returnsInHanded_of_change (C := Try.checked) own started (by kernel_rfl) Try.func11
    (ChangeSpec.witness6 (enc := enc) (C := Try.checked) false ⟨#[], #[.agg #[.int .i64 0, .string ⟨#[]⟩, .slice none 0 0, .slice none 0 0]], []⟩ 24 (by kernel_rfl) (by kernel_rfl) (by kernel_rfl) (by kernel_rfl)) ?_
  intro W base args ds gs before hval hW _ _
  exact law_post (n := 24) (ps := [(true, [.i .i64, .s, .sl [.s, .i .i64, .s], .sl [.i .i64, .s, .sl [.s, .i .i64, .s], .i .i64, .s, .i .i64, .s, .s, .i .i64, .s]])]) (by kernel_rfl) rfl (by kernel_rfl) Try.underlying4 (fun ds hl => by
    match ds, hl with
    | [d0], _ => exact ⟨rfl, rfl, rfl⟩) contract W base args ds gs before hval hW
theorem r1 : Try.pinned.checked.prog.funcNamed Rows.fnExactLooseVarsRow.func = some 11 := by kernel_rfl
theorem q1 : jf1 Try.pinned.checked.prog Try.f11 Rows.fnExactLooseVarsSpec Rows.fnExactLooseVarsRow = true := by kernel_rfl
theorem q2 : jf2 Try.pinned.checked.prog 11 Rows.fnExactLooseVarsRow = true := by kernel_rfl
theorem q3 : jf3 Try.pinned.checked.prog Try.f11 Rows.fnExactLooseVarsSpec Rows.fnExactLooseVarsRow = true := by kernel_rfl
theorem q4 : jf4 Try.pinned.checked.prog Try.f11 Rows.fnExactLooseVarsSpec Rows.fnExactLooseVarsRow = true := by kernel_rfl
theorem q5 : jf5 Try.pinned.checked.prog = true := by kernel_rfl
theorem q6 : jf6 Try.pinned.checked.prog = true := by kernel_rfl
theorem q7 : jf7 Try.pinned.checked.prog Rows.fnExactLooseVarsRow = true := by kernel_rfl
theorem q8 : jf8 Try.pinned.checked.prog Try.f11 Rows.fnExactLooseVarsRow = true := by kernel_rfl
theorem q9 : jf9 Try.pinned.checked.prog Try.f11 Rows.fnExactLooseVarsSpec Rows.fnExactLooseVarsRow = true := by kernel_rfl
theorem r2 : joinedFacts Try.pinned.checked.prog 11 Try.f11 Rows.fnExactLooseVarsSpec Rows.fnExactLooseVarsRow = true := joined_of _ _ _ _ _ q1 q2 q3 q4 q5 q6 q7 q8 q9
theorem r3 : Try.f11.isInstance Try.pinned.checked.prog Rows.fnExactLooseVarsRow.origin Rows.fnExactLooseVarsRow.targs := of_decide_eq_true (by kernel_rfl)
theorem r4 : Try.f11.isWrapper Try.pinned.checked.prog Rows.fnExactLooseVarsRow.wrapper Rows.fnExactLooseVarsRow.mainSum := by unfold Func.isWrapper; first | (rw [if_pos (by decide +kernel)]; kernel_rfl) | (rw [if_neg (by decide +kernel)]; exact ⟨rfl, rfl⟩)
theorem said : Rows.FnExactLooseVarsSaid :=
  OpenClaim.holds_of_wide 11 Try.f11 rfl rfl rfl rfl rfl rfl rfl ⟨rfl, rfl, rfl, rfl, rfl⟩ rfl rfl rfl rfl rfl r1 Try.func11 r2 r3 r4
    (fun os started H enc _ => lifted os started H enc)
#print axioms said
end Go.Proofs.Ytojlgbkikicklaa.fnExactLooseVars
