/- The statement on FnFit. No condition. -/
import Derived.Test.YthlbadfickhkfaaRows
import Derived.Test.YthlbadfickhkfaaebL25
import Derived.Test.YthlbadfickhkfaakBwdeb
import Derived.ProofKit
namespace Go.Proofs.Ythlbadfickhkfaa.fnFit
set_option linter.unusedVariables false
open Go.Aw Go.RowKit
attribute [local irreducible] Go.Aw.A0m
theorem own : ownKnob Try.prog.godebug = none := by kernel_rfl
theorem contract : ∀ Vs, a5v ([(false, [.sl [.i .u8]])] : List (Bool × List Sh)) Vs → Go.Aw.A0m Try.prog 3 Vs [] (.one (false, [.b true])) := by
 intro Vs h
 obtain ⟨_, _, rfl, h0, g0⟩ := vsC h
 obtain ⟨r0, _, rfl, k0, l0⟩ := hasL h0
 obtain rfl := hasN l0
 obtain ⟨a0, rfl⟩ := rows_of (fun r hr => cU8_of (k0 r hr))
 obtain rfl := vsN g0
 exact a3P a0
set_option maxRecDepth 100000 in
theorem lifted (os : Os) (started : os.Started) (H : Type) (enc : TypeId × Value → H) :
  ReturnsInHanded {} Try.checked os 3 .any (Rows.fnFitSpec.pre6 enc Try.prog Try.f3 Rows.fnFitRow.domain false) (Rows.fnFitSpec.post enc Try.prog Try.f3 false true false false) := by
 refine returnsInHanded_of_change (C := Try.checked) own started (by kernel_rfl) Try.func3
  (ChangeSpec.witness6 (enc := enc) (C := Try.checked) false ⟨#[], #[.slice none 0 0], []⟩ 24 (by kernel_rfl) (by kernel_rfl) (by kernel_rfl) (by kernel_rfl)) ?_
 intro W base args ds gs before hval hW _ _
 exact b2u (n := 24) (ps := [(false, [.sl [.i .u8]])]) (by kernel_rfl) rfl (by kernel_rfl) Try.underlying4 (fun ds hl => by
  match ds, hl with
  | [d0], _ => exact ⟨rfl, rfl, rfl⟩) contract W base args ds gs before hval hW
theorem r1 : Try.pinned.checked.prog.funcNamed Rows.fnFitRow.func = some 3 := by kernel_rfl
theorem q1 : jf1 Try.pinned.checked.prog Try.f3 Rows.fnFitSpec Rows.fnFitRow = true := by kernel_rfl
theorem q2 : jf2 Try.pinned.checked.prog 3 Rows.fnFitRow = true := by kernel_rfl
theorem q3 : jf3 Try.pinned.checked.prog Try.f3 Rows.fnFitSpec Rows.fnFitRow = true := by kernel_rfl
theorem q4 : jf4 Try.pinned.checked.prog Try.f3 Rows.fnFitSpec Rows.fnFitRow = true := by kernel_rfl
theorem q5 : jf5 Try.pinned.checked.prog = true := by kernel_rfl
theorem q6 : jf6 Try.pinned.checked.prog = true := by kernel_rfl
theorem q7 : jf7 Try.pinned.checked.prog Rows.fnFitRow = true := by kernel_rfl
theorem q8 : jf8 Try.pinned.checked.prog Try.f3 Rows.fnFitRow = true := by kernel_rfl
theorem q9 : jf9 Try.pinned.checked.prog Try.f3 Rows.fnFitSpec Rows.fnFitRow = true := by kernel_rfl
theorem r2 : joinedFacts Try.pinned.checked.prog 3 Try.f3 Rows.fnFitSpec Rows.fnFitRow = true := b1e _ _ _ _ _ q1 q2 q3 q4 q5 q6 q7 q8 q9
theorem r3 : Try.f3.isInstance Try.pinned.checked.prog Rows.fnFitRow.origin Rows.fnFitRow.targs := of_decide_eq_true (by kernel_rfl)
theorem r4 : Try.f3.isWrapper Try.pinned.checked.prog Rows.fnFitRow.wrapper Rows.fnFitRow.mainSum := by unfold Func.isWrapper; first | (rw [if_pos (by decide +kernel)]; kernel_rfl) | (rw [if_neg (by decide +kernel)]; exact ⟨rfl, rfl⟩)
theorem said : Rows.FnFitSaid :=
 OpenClaim.holds_of_wide 3 Try.f3 rfl rfl rfl rfl rfl rfl rfl ⟨rfl, rfl, rfl, rfl, rfl⟩ rfl rfl rfl rfl rfl r1 Try.func3 r2 r3 r4
  (fun os started H enc _ => lifted os started H enc)
#print axioms said
end Go.Proofs.Ythlbadfickhkfaa.fnFit
