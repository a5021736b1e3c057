/- The statement on FnHeads. No condition. -/
import Derived.Test.YtokefohpgeajaaaGreatRows
import Derived.Test.YtokefohpgeajaaaGreatwfL41
import Derived.Test.YtokefohpgeajaaaGreatrBwdwf
import Derived.ProofKit
namespace Go.Proofs.YtokefohpgeajaaaGreat.fnHeads
set_option linter.all false
open Go.Aw Go.RowKit
attribute [local irreducible] Go.Aw.A0p
theorem own : ownKnob Tryz.prog.godebug = none := by kernel_rfl
theorem contract : ∀ Vs, b3o ([(false, [.sl [.i .u8]])] : List (Bool × List Sh)) Vs → Go.Aw.A0p Tryz.prog 8 Vs [] (.one (false, [.b true])) := by
 intro Vs h
 obtain ⟨_, _, rfl, h0, g0⟩ := vsC h
 obtain ⟨r0, _, rfl, k0, l0⟩ := hasL h0
 obtain rfl := hasN l0
 obtain ⟨a0, rfl⟩ := rows_of (fun r hr => cU8_of (k0 r hr))
 obtain rfl := vsN g0
 exact a6Z a0
set_option maxRecDepth 100000 in
theorem lifted (os : Os) (started : os.Started) (H : Type) (enc : TypeId × Value → H) :
  ReturnsInHanded {} Tryz.checked os 8 .any (Rows.fnHeadsSpec.pre6 enc Tryz.prog Tryz.f8 Rows.fnHeadsRow.domain false) (Rows.fnHeadsSpec.post enc Tryz.prog Tryz.f8 false true false false) := by
 refine returnsInHanded_of_change (C := Tryz.checked) own started (by kernel_rfl) Tryz.func8
  (ChangeSpec.witness6 (enc := enc) (C := Tryz.checked) false ⟨#[], #[.slice none 0 0], []⟩ 24 (by kernel_rfl) (by kernel_rfl) (by kernel_rfl) (by kernel_rfl)) ?_
 intro W base args ds gs before hval hW _ _
 exact d0c (n := 24) (ps := [(false, [.sl [.i .u8]])]) (by kernel_rfl) rfl (by kernel_rfl) Tryz.underlying4 (fun ds hl => by
  match ds, hl with
  | [d0], _ => exact ⟨rfl, rfl, rfl⟩) contract W base args ds gs before hval hW
theorem r1 : Tryz.pinned.checked.prog.funcNamed Rows.fnHeadsRow.func = some 8 := by kernel_rfl
theorem q1 : jf1 Tryz.pinned.checked.prog Tryz.f8 Rows.fnHeadsSpec Rows.fnHeadsRow = true := by kernel_rfl
theorem q2 : jf2 Tryz.pinned.checked.prog 8 Rows.fnHeadsRow = true := by kernel_rfl
theorem q3 : jf3 Tryz.pinned.checked.prog Tryz.f8 Rows.fnHeadsSpec Rows.fnHeadsRow = true := by kernel_rfl
theorem q4 : jf4 Tryz.pinned.checked.prog Tryz.f8 Rows.fnHeadsSpec Rows.fnHeadsRow = true := by kernel_rfl
theorem q5 : jf5 Tryz.pinned.checked.prog = true := by kernel_rfl
theorem q6 : jf6 Tryz.pinned.checked.prog = true := by kernel_rfl
theorem q7 : jf7 Tryz.pinned.checked.prog Rows.fnHeadsRow = true := by kernel_rfl
theorem q8 : jf8 Tryz.pinned.checked.prog Tryz.f8 Rows.fnHeadsRow = true := by kernel_rfl
theorem q9 : jf9 Tryz.pinned.checked.prog Tryz.f8 Rows.fnHeadsSpec Rows.fnHeadsRow = true := by kernel_rfl
theorem r2 : joinedFacts Tryz.pinned.checked.prog 8 Tryz.f8 Rows.fnHeadsSpec Rows.fnHeadsRow = true := c7A _ _ _ _ _ q1 q2 q3 q4 q5 q6 q7 q8 q9
theorem r3 : Tryz.f8.isInstance Tryz.pinned.checked.prog Rows.fnHeadsRow.origin Rows.fnHeadsRow.targs := of_decide_eq_true (by kernel_rfl)
theorem r4 : Tryz.f8.isWrapper Tryz.pinned.checked.prog Rows.fnHeadsRow.wrapper Rows.fnHeadsRow.mainSum := by unfold Func.isWrapper; first | (rw [if_pos (by decide +kernel)]; kernel_rfl) | (rw [if_neg (by decide +kernel)]; exact ⟨rfl, rfl⟩)
theorem said : Rows.FnHeadsSaid :=
 OpenClaim.holds_of_wide 8 Tryz.f8 rfl rfl rfl rfl rfl rfl rfl ⟨rfl, rfl, rfl, rfl, rfl⟩ rfl rfl rfl rfl rfl r1 Tryz.func8 r2 r3 r4
  (fun os started H enc _ => lifted os started H enc)
#print axioms said
end Go.Proofs.YtokefohpgeajaaaGreat.fnHeads
