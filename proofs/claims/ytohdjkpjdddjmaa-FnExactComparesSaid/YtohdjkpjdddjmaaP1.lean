/- The statement on Compares. No condition. -/
import Derived.Test.YtohdjkpjdddjmaaRows
import Derived.Test.YtohdjkpjdddjmaaL1
import Derived.Test.YtohdjkpjdddjmaaAwd
import Derived.ProofKit
namespace Go.Proofs.Ytohdjkpjdddjmaa.fnExactCompares
set_option linter.unusedVariables false
open Go.Aw Go.RowKit
attribute [local irreducible] Go.Aw.Spec
theorem own : ownKnob Try.prog.godebug = none := by kernel_rfl
theorem contract : ∀ Vs, VsHas ([(false, [.i .i64]), (true, [.i .i64, .s]), (true, [.i .i64, .s])] : List (Bool × List Sh)) Vs → Go.Aw.Spec Try.prog 3 Vs (.one (false, [.b true])) := by
  intro Vs h
  obtain ⟨_, _, rfl, h0, g0⟩ := vsC h
  obtain ⟨a0, _, rfl, k0⟩ := hasI h0
  obtain rfl := hasN k0
  obtain ⟨_, _, rfl, h1, g1⟩ := vsC g0
  obtain ⟨a1, rfl⟩ := GValue_of h1
  obtain ⟨_, _, rfl, h2, g2⟩ := vsC g1
  obtain ⟨a2, rfl⟩ := GValue_of h2
  obtain rfl := vsN g2
  exact k_laws_FnExactCompares a0 a1 a2
set_option maxRecDepth 100000 in
theorem lifted (os : Os) (started : os.Started) (H : Type) (enc : TypeId × Value → H) :
    ReturnsInHanded {} Try.checked os 3 .any (Rows.fnExactComparesSpec.pre6 enc Try.prog Try.f3 Rows.fnExactComparesRow.domain false) (Rows.fnExactComparesSpec.post enc Try.prog Try.f3 false true false false) := by
  refine returnsInHanded_of_change (C := Try.checked) own started (by kernel_rfl) Try.func3
    (ChangeSpec.witness6 (enc := enc) (C := Try.checked) false ⟨#[], #[.int .i64 0, .agg #[.int .i64 0, .string ⟨#[]⟩], .agg #[.int .i64 0, .string ⟨#[]⟩]], []⟩ 8 (by kernel_rfl) (by kernel_rfl) (by kernel_rfl) (by kernel_rfl)) ?_
  intro W base args ds gs before hval hW _ _
  exact law_post (n := 8) (ps := [(false, [.i .i64]), (true, [.i .i64, .s]), (true, [.i .i64, .s])]) (by kernel_rfl) rfl (by kernel_rfl) Try.underlying4 (fun ds hl => by
    match ds, hl with
    | [d0, d1, d2], _ => exact ⟨rfl, rfl, rfl⟩) contract W base args ds gs before hval hW
theorem said : Rows.FnExactComparesSaid :=
  OpenClaim.holds_of_wide 3 Try.f3 rfl rfl rfl rfl rfl rfl rfl ⟨rfl, rfl, rfl, rfl, rfl⟩ rfl rfl rfl rfl rfl (by kernel_rfl) Try.func3 (by kernel_rfl)
    (of_decide_eq_true (by kernel_rfl)) (by unfold Func.isWrapper; first | (rw [if_pos (by decide +kernel)]; kernel_rfl) | (rw [if_neg (by decide +kernel)]; exact ⟨rfl, rfl⟩))
    (fun os started H enc _ => lifted os started H enc)
#print axioms said
end Go.Proofs.Ytohdjkpjdddjmaa.fnExactCompares
