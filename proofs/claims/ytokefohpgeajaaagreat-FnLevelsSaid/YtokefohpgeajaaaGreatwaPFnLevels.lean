/- The statement on FnLevels. No condition. -/
import Derived.Test.YtokefohpgeajaaaGreatRows
import Derived.Test.YtokefohpgeajaaaGreatwaL36
import Derived.Test.YtokefohpgeajaaaGreatqBwdwa
import Derived.ProofKit
namespace Go.Proofs.YtokefohpgeajaaaGreat.fnLevels
set_option linter.all false
open Go.Aw Go.RowKit
attribute [local irreducible] Go.Aw.A0d
theorem own : ownKnob Tryz.prog.godebug = none := by kernel_rfl
theorem contract : ∀ Vs, a9O ([(false, [.sl [.i .u8]])] : List (Bool × List Sh)) Vs → Go.Aw.A0d Tryz.prog 3 Vs [] (.one (false, [.b true])) := by
 intro Vs h
 obtain ⟨_, _, rfl, h0, g0⟩ := vsC h
 obtain ⟨r0, _, rfl, k0, l0⟩ := hasL h0
 obtain rfl := hasN l0
 obtain ⟨a0, rfl⟩ := rows_of (fun r hr => cU8_of (k0 r hr))
 obtain rfl := vsN g0
 exact a3I a0
set_option maxRecDepth 100000 in
theorem lifted (os : Os) (started : os.Started) (H : Type) (enc : TypeId × Value → H) :
  ReturnsInHanded {} Tryz.checked os 3 .any (Rows.fnLevelsSpec.pre6 enc Tryz.prog Tryz.f3 Rows.fnLevelsRow.domain false) (Rows.fnLevelsSpec.post enc Tryz.prog Tryz.f3 false true false false) := by
 refine returnsInHanded_of_change (C := Tryz.checked) own started (by kernel_rfl) Tryz.func3
  (ChangeSpec.witness6 (enc := enc) (C := Tryz.checked) false ⟨#[], #[.slice none 0 0], []⟩ 24 (by kernel_rfl) (by kernel_rfl) (by kernel_rfl) (by kernel_rfl)) ?_
 intro W base args ds gs before hval hW _ _
 exact c1m (n := 24) (ps := [(false, [.sl [.i .u8]])]) (by kernel_rfl) rfl (by kernel_rfl) Tryz.underlying4 (fun ds hl => by
  match ds, hl with
  | [d0], _ => exact ⟨rfl, rfl, rfl⟩) contract W base args ds gs before hval hW
theorem r1 : Tryz.pinned.checked.prog.funcNamed Rows.fnLevelsRow.func = some 3 := by kernel_rfl
theorem q1 : jf1 Tryz.pinned.checked.prog Tryz.f3 Rows.fnLevelsSpec Rows.fnLevelsRow = true := by kernel_rfl
theorem q2 : jf2 Tryz.pinned.checked.prog 3 Rows.fnLevelsRow = true := by kernel_rfl
theorem q3 : jf3 Tryz.pinned.checked.prog Tryz.f3 Rows.fnLevelsSpec Rows.fnLevelsRow = true := by kernel_rfl
theorem q4 : jf4 Tryz.pinned.checked.prog Tryz.f3 Rows.fnLevelsSpec Rows.fnLevelsRow = true := by kernel_rfl
theorem q5 : jf5 Tryz.pinned.checked.prog = true := by kernel_rfl
theorem q6 : jf6 Tryz.pinned.checked.prog = true := by kernel_rfl
theorem q7 : jf7 Tryz.pinned.checked.prog Rows.fnLevelsRow = true := by kernel_rfl
theorem q8 : jf8 Tryz.pinned.checked.prog Tryz.f3 Rows.fnLevelsRow = true := by kernel_rfl
theorem q9 : jf9 Tryz.pinned.checked.prog Tryz.f3 Rows.fnLevelsSpec Rows.fnLevelsRow = true := by kernel_rfl
theorem r2 : joinedFacts Tryz.pinned.checked.prog 3 Tryz.f3 Rows.fnLevelsSpec Rows.fnLevelsRow = true := b9z _ _ _ _ _ q1 q2 q3 q4 q5 q6 q7 q8 q9
theorem r3 : Tryz.f3.isInstance Tryz.pinned.checked.prog Rows.fnLevelsRow.origin Rows.fnLevelsRow.targs := of_decide_eq_true (by kernel_rfl)
theorem r4 : Tryz.f3.isWrapper Tryz.pinned.checked.prog Rows.fnLevelsRow.wrapper Rows.fnLevelsRow.mainSum := by unfold Func.isWrapper; first | (rw [if_pos (by decide +kernel)]; kernel_rfl) | (rw [if_neg (by decide +kernel)]; exact ⟨rfl, rfl⟩)
theorem said : Rows.FnLevelsSaid :=
 OpenClaim.holds_of_wide 3 Tryz.f3 rfl rfl rfl rfl rfl rfl rfl ⟨rfl, rfl, rfl, rfl, rfl⟩ rfl rfl rfl rfl rfl r1 Tryz.func3 r2 r3 r4
  (fun os started H enc _ => lifted os started H enc)
#print axioms said
end Go.Proofs.YtokefohpgeajaaaGreat.fnLevels
