/- The statement on FlowFind. No condition. -/
import Derived.Test.YtohdjkpjdddjmaaRows
import Derived.Test.YtohdjkpjdddjmaaL4
import Derived.Test.YtohdjkpjdddjmaaBwd
import Derived.ProofKit
namespace Go.Proofs.Ytohdjkpjdddjmaa.fnExactFlowFind
set_option linter.unusedVariables false
open Go.Aw Go.RowKit
attribute [local irreducible] Go.Aw.SpecO
theorem own : ownKnob Try.prog.godebug = none := by kernel_rfl
theorem contract : ∀ Vs, VsHas ([(false, [.sl [.i .i64, .sl [.i .i64], .sl [.i .i64], .sl [.i .i64, .i .i64, .i .i64]]]), (true, [.sl [.i .i64]])] : List (Bool × List Sh)) Vs → Go.Aw.SpecO Try.prog 8 Vs [] (.one (false, [.b true])) := by
  intro Vs h
  obtain ⟨_, _, rfl, h0, g0⟩ := vsC h
  obtain ⟨r0, _, rfl, k0, l0⟩ := hasL h0
  obtain rfl := hasN l0
  obtain ⟨a0, rfl⟩ := rows_of (fun r hr => GFlow_of (k0 r hr))
  obtain ⟨_, _, rfl, h1, g1⟩ := vsC g0
  obtain ⟨a1, rfl⟩ := GHead_of h1
  obtain rfl := vsN g1
  exact k_laws_FnExactFlowFind a0 a1
set_option maxRecDepth 100000 in
theorem lifted (os : Os) (started : os.Started) (H : Type) (enc : TypeId × Value → H) :
    ReturnsInHanded {} Try.checked os 8 .any (Rows.fnExactFlowFindSpec.pre6 enc Try.prog Try.f8 Rows.fnExactFlowFindRow.domain false) (Rows.fnExactFlowFindSpec.post enc Try.prog Try.f8 false true false false) := by
  refine returnsInHanded_of_change (C := Try.checked) own started (by kernel_rfl) Try.func8
    (ChangeSpec.witness6 (enc := enc) (C := Try.checked) false ⟨#[], #[.slice none 0 0, .agg #[.slice none 0 0]], []⟩ 8 (by kernel_rfl) (by kernel_rfl) (by kernel_rfl) (by kernel_rfl)) ?_
  intro W base args ds gs before hval hW _ _
  exact law_post (n := 8) (ps := [(false, [.sl [.i .i64, .sl [.i .i64], .sl [.i .i64], .sl [.i .i64, .i .i64, .i .i64]]]), (true, [.sl [.i .i64]])]) (by kernel_rfl) rfl (by kernel_rfl) Try.underlying4 (fun ds hl => by
    match ds, hl with
    | [d0, d1], _ => exact ⟨rfl, rfl, rfl⟩) contract W base args ds gs before hval hW
theorem said : Rows.FnExactFlowFindSaid :=
  OpenClaim.holds_of_wide 8 Try.f8 rfl rfl rfl rfl rfl rfl rfl ⟨rfl, rfl, rfl, rfl, rfl⟩ rfl rfl rfl rfl rfl (by kernel_rfl) Try.func8 (by kernel_rfl)
    (of_decide_eq_true (by kernel_rfl)) (by unfold Func.isWrapper; first | (rw [if_pos (by decide +kernel)]; kernel_rfl) | (rw [if_neg (by decide +kernel)]; exact ⟨rfl, rfl⟩))
    (fun os started H enc _ => lifted os started H enc)
#print axioms said
end Go.Proofs.Ytohdjkpjdddjmaa.fnExactFlowFind
