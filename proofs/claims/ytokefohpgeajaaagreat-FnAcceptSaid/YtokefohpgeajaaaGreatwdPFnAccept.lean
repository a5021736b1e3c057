/- The statement on FnAccept. No condition. -/
import Derived.Test.YtokefohpgeajaaaGreatRows
import Derived.Test.YtokefohpgeajaaaGreatwdL39
import Derived.Test.YtokefohpgeajaaaGreatqBwdwd
import Derived.ProofKit
namespace Go.Proofs.YtokefohpgeajaaaGreat.fnAccept
set_option linter.all false
open Go.Aw Go.RowKit
attribute [local irreducible] Go.Aw.A0d
theorem own : ownKnob Tryz.prog.godebug = none := by kernel_rfl
theorem contract : ∀ Vs, b3F ([(false, [.sl [.i .u8]])] : List (Bool × List Sh)) Vs → Go.Aw.A0d Tryz.prog 6 Vs [] (.one (false, [.b true])) := by
 intro Vs h
 obtain ⟨_, _, rfl, h0, g0⟩ := vsC h
 obtain ⟨r0, _, rfl, k0, l0⟩ := hasL h0
 obtain rfl := hasN l0
 obtain ⟨a0, rfl⟩ := rows_of (fun r hr => cU8_of (k0 r hr))
 obtain rfl := vsN g0
 exact a5V a0
set_option maxRecDepth 100000 in
theorem lifted (os : Os) (started : os.Started) (H : Type) (enc : TypeId × Value → H) :
  ReturnsInHanded {} Tryz.checked os 6 .any (Rows.fnAcceptSpec.pre6 enc Tryz.prog Tryz.f6 Rows.fnAcceptRow.domain false) (Rows.fnAcceptSpec.post enc Tryz.prog Tryz.f6 false true false false) := by
 refine returnsInHanded_of_change (C := Tryz.checked) own started (by kernel_rfl) Tryz.func6
  (ChangeSpec.witness6 (enc := enc) (C := Tryz.checked) false ⟨#[], #[.slice none 0 0], []⟩ 24 (by kernel_rfl) (by kernel_rfl) (by kernel_rfl) (by kernel_rfl)) ?_
 intro W base args ds gs before hval hW _ _
 exact c8l (n := 24) (ps := [(false, [.sl [.i .u8]])]) (by kernel_rfl) rfl (by kernel_rfl) Tryz.underlying4 (fun ds hl => by
  match ds, hl with
  | [d0], _ => exact ⟨rfl, rfl, rfl⟩) contract W base args ds gs before hval hW
theorem r1 : Tryz.pinned.checked.prog.funcNamed Rows.fnAcceptRow.func = some 6 := by kernel_rfl
theorem q1 : jf1 Tryz.pinned.checked.prog Tryz.f6 Rows.fnAcceptSpec Rows.fnAcceptRow = true := by kernel_rfl
theorem q2 : jf2 Tryz.pinned.checked.prog 6 Rows.fnAcceptRow = true := by kernel_rfl
theorem q3 : jf3 Tryz.pinned.checked.prog Tryz.f6 Rows.fnAcceptSpec Rows.fnAcceptRow = true := by kernel_rfl
theorem q4 : jf4 Tryz.pinned.checked.prog Tryz.f6 Rows.fnAcceptSpec Rows.fnAcceptRow = true := by kernel_rfl
theorem q5 : jf5 Tryz.pinned.checked.prog = true := by kernel_rfl
theorem q6 : jf6 Tryz.pinned.checked.prog = true := by kernel_rfl
theorem q7 : jf7 Tryz.pinned.checked.prog Rows.fnAcceptRow = true := by kernel_rfl
theorem q8 : jf8 Tryz.pinned.checked.prog Tryz.f6 Rows.fnAcceptRow = true := by kernel_rfl
theorem q9 : jf9 Tryz.pinned.checked.prog Tryz.f6 Rows.fnAcceptSpec Rows.fnAcceptRow = true := by kernel_rfl
theorem r2 : joinedFacts Tryz.pinned.checked.prog 6 Tryz.f6 Rows.fnAcceptSpec Rows.fnAcceptRow = true := c6j _ _ _ _ _ q1 q2 q3 q4 q5 q6 q7 q8 q9
theorem r3 : Tryz.f6.isInstance Tryz.pinned.checked.prog Rows.fnAcceptRow.origin Rows.fnAcceptRow.targs := of_decide_eq_true (by kernel_rfl)
theorem r4 : Tryz.f6.isWrapper Tryz.pinned.checked.prog Rows.fnAcceptRow.wrapper Rows.fnAcceptRow.mainSum := by unfold Func.isWrapper; first | (rw [if_pos (by decide +kernel)]; kernel_rfl) | (rw [if_neg (by decide +kernel)]; exact ⟨rfl, rfl⟩)
theorem said : Rows.FnAcceptSaid :=
 OpenClaim.holds_of_wide 6 Tryz.f6 rfl rfl rfl rfl rfl rfl rfl ⟨rfl, rfl, rfl, rfl, rfl⟩ rfl rfl rfl rfl rfl r1 Tryz.func6 r2 r3 r4
  (fun os started H enc _ => lifted os started H enc)
#print axioms said
end Go.Proofs.YtokefohpgeajaaaGreat.fnAccept
