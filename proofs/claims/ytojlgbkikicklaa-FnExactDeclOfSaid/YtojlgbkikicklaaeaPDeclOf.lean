/- The statement on DeclOf. No condition. -/
import Derived.Test.YtojlgbkikicklaaRows
import Derived.Test.YtojlgbkikicklaaeaL6
import Derived.Test.YtojlgbkikicklaadBwd
import Derived.ProofKit
namespace Go.Proofs.Ytojlgbkikicklaa.fnExactDeclOf
set_option linter.unusedVariables false
open Go.Aw Go.RowKit
attribute [local irreducible] Go.Aw.SpecO
theorem own : ownKnob Try.prog.godebug = none := by kernel_rfl
theorem contract : ∀ Vs, VsHas ([(true, [.sl [.i .i64, .s, .i .i64], .sl [.i .i64, .s, .sl [.s, .i .i64, .s], .sl [.i .i64, .s, .sl [.s, .i .i64, .s], .i .i64, .s, .i .i64, .s, .s, .i .i64, .s]]]), (false, [.s])] : List (Bool × List Sh)) Vs → Go.Aw.SpecO Try.prog 4 Vs [] (.one (false, [.b true])) := by
  intro Vs h
  obtain ⟨_, _, rfl, h0, g0⟩ := vsC h
  obtain ⟨a0, rfl⟩ := GProgram_of h0
  obtain ⟨_, _, rfl, h1, g1⟩ := vsC g0
  obtain ⟨a1, _, rfl, k1⟩ := hasS h1
  obtain rfl := hasN k1
  obtain rfl := vsN g1
  exact k_laws_FnExactDeclOf a0 a1
set_option maxRecDepth 100000 in
theorem lifted (os : Os) (started : os.Started) (H : Type) (enc : TypeId × Value → H) :
    ReturnsInHanded {} Try.checked os 4 .any (Rows.fnExactDeclOfSpec.pre6 enc Try.prog Try.f4 Rows.fnExactDeclOfRow.domain false) (Rows.fnExactDeclOfSpec.post enc Try.prog Try.f4 false true false false) := by
  refine returnsInHanded_of_change (C := Try.checked) own started (by kernel_rfl) Try.func4
    (ChangeSpec.witness6 (enc := enc) (C := Try.checked) false ⟨#[], #[.agg #[.slice none 0 0, .slice none 0 0], .string ⟨#[]⟩], []⟩ 24 (by kernel_rfl) (by kernel_rfl) (by kernel_rfl) (by kernel_rfl)) ?_
  intro W base args ds gs before hval hW _ _
  exact law_post (n := 24) (ps := [(true, [.sl [.i .i64, .s, .i .i64], .sl [.i .i64, .s, .sl [.s, .i .i64, .s], .sl [.i .i64, .s, .sl [.s, .i .i64, .s], .i .i64, .s, .i .i64, .s, .s, .i .i64, .s]]]), (false, [.s])]) (by kernel_rfl) rfl (by kernel_rfl) Try.underlying4 (fun ds hl => by
    match ds, hl with
    | [d0, d1], _ => exact ⟨rfl, rfl, rfl⟩) contract W base args ds gs before hval hW
theorem r1 : Try.pinned.checked.prog.funcNamed Rows.fnExactDeclOfRow.func = some 4 := by kernel_rfl
theorem r2 : joinedFacts Try.pinned.checked.prog 4 Try.f4 Rows.fnExactDeclOfSpec Rows.fnExactDeclOfRow = true := by kernel_rfl
theorem r3 : Try.f4.isInstance Try.pinned.checked.prog Rows.fnExactDeclOfRow.origin Rows.fnExactDeclOfRow.targs := of_decide_eq_true (by kernel_rfl)
theorem r4 : Try.f4.isWrapper Try.pinned.checked.prog Rows.fnExactDeclOfRow.wrapper Rows.fnExactDeclOfRow.mainSum := by unfold Func.isWrapper; first | (rw [if_pos (by decide +kernel)]; kernel_rfl) | (rw [if_neg (by decide +kernel)]; exact ⟨rfl, rfl⟩)
theorem said : Rows.FnExactDeclOfSaid :=
  OpenClaim.holds_of_wide 4 Try.f4 rfl rfl rfl rfl rfl rfl rfl ⟨rfl, rfl, rfl, rfl, rfl⟩ rfl rfl rfl rfl rfl r1 Try.func4 r2 r3 r4
    (fun os started H enc _ => lifted os started H enc)
#print axioms said
end Go.Proofs.Ytojlgbkikicklaa.fnExactDeclOf
