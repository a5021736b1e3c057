/- The statement on FnExactAccept. No condition. -/
import Derived.Test.YtokefohpgeajaaaGreatRows
import Derived.Test.YtokefohpgeajaaaGreatwbL38
import Derived.Test.YtokefohpgeajaaaGreatqBwdwb
import Derived.ProofKit
namespace Go.Proofs.YtokefohpgeajaaaGreat.fnExactAccept
set_option linter.all false
open Go.Aw Go.RowKit
attribute [local irreducible] Go.Aw.A0d
theorem own : ownKnob Tryz.prog.godebug = none := by kernel_rfl
theorem contract : ∀ Vs, b2w ([(false, [.s])] : List (Bool × List Sh)) Vs → Go.Aw.A0d Tryz.prog 4 Vs [] (.one (false, [.b true])) := by
 intro Vs h
 obtain ⟨_, _, rfl, h0, g0⟩ := vsC h
 obtain ⟨a0, _, rfl, k0⟩ := hasS h0
 obtain rfl := hasN k0
 obtain rfl := vsN g0
 exact a2j a0
set_option maxRecDepth 100000 in
theorem lifted (os : Os) (started : os.Started) (H : Type) (enc : TypeId × Value → H) :
  ReturnsInHanded {} Tryz.checked os 4 .any (Rows.fnExactAcceptSpec.pre6 enc Tryz.prog Tryz.f4 Rows.fnExactAcceptRow.domain false) (Rows.fnExactAcceptSpec.post enc Tryz.prog Tryz.f4 false true false false) := by
 refine returnsInHanded_of_change (C := Tryz.checked) own started (by kernel_rfl) Tryz.func4
  (ChangeSpec.witness6 (enc := enc) (C := Tryz.checked) false ⟨#[], #[.string ⟨#[]⟩], []⟩ 24 (by kernel_rfl) (by kernel_rfl) (by kernel_rfl) (by kernel_rfl)) ?_
 intro W base args ds gs before hval hW _ _
 exact c5J (n := 24) (ps := [(false, [.s])]) (by kernel_rfl) rfl (by kernel_rfl) Tryz.underlying4 (fun ds hl => by
  match ds, hl with
  | [d0], _ => exact ⟨rfl, rfl, rfl⟩) contract W base args ds gs before hval hW
theorem r1 : Tryz.pinned.checked.prog.funcNamed Rows.fnExactAcceptRow.func = some 4 := by kernel_rfl
theorem q1 : jf1 Tryz.pinned.checked.prog Tryz.f4 Rows.fnExactAcceptSpec Rows.fnExactAcceptRow = true := by kernel_rfl
theorem q2 : jf2 Tryz.pinned.checked.prog 4 Rows.fnExactAcceptRow = true := by kernel_rfl
theorem q3 : jf3 Tryz.pinned.checked.prog Tryz.f4 Rows.fnExactAcceptSpec Rows.fnExactAcceptRow = true := by kernel_rfl
theorem q4 : jf4 Tryz.pinned.checked.prog Tryz.f4 Rows.fnExactAcceptSpec Rows.fnExactAcceptRow = true := by kernel_rfl
theorem q5 : jf5 Tryz.pinned.checked.prog = true := by kernel_rfl
theorem q6 : jf6 Tryz.pinned.checked.prog = true := by kernel_rfl
theorem q7 : jf7 Tryz.pinned.checked.prog Rows.fnExactAcceptRow = true := by kernel_rfl
theorem q8 : jf8 Tryz.pinned.checked.prog Tryz.f4 Rows.fnExactAcceptRow = true := by kernel_rfl
theorem q9 : jf9 Tryz.pinned.checked.prog Tryz.f4 Rows.fnExactAcceptSpec Rows.fnExactAcceptRow = true := by kernel_rfl
theorem r2 : joinedFacts Tryz.pinned.checked.prog 4 Tryz.f4 Rows.fnExactAcceptSpec Rows.fnExactAcceptRow = true := c3X _ _ _ _ _ q1 q2 q3 q4 q5 q6 q7 q8 q9
theorem r3 : Tryz.f4.isInstance Tryz.pinned.checked.prog Rows.fnExactAcceptRow.origin Rows.fnExactAcceptRow.targs := of_decide_eq_true (by kernel_rfl)
theorem r4 : Tryz.f4.isWrapper Tryz.pinned.checked.prog Rows.fnExactAcceptRow.wrapper Rows.fnExactAcceptRow.mainSum := by unfold Func.isWrapper; first | (rw [if_pos (by decide +kernel)]; kernel_rfl) | (rw [if_neg (by decide +kernel)]; exact ⟨rfl, rfl⟩)
theorem said : Rows.FnExactAcceptSaid :=
 OpenClaim.holds_of_wide 4 Tryz.f4 rfl rfl rfl rfl rfl rfl rfl ⟨rfl, rfl, rfl, rfl, rfl⟩ rfl rfl rfl rfl rfl r1 Tryz.func4 r2 r3 r4
  (fun os started H enc _ => lifted os started H enc)
#print axioms said
end Go.Proofs.YtokefohpgeajaaaGreat.fnExactAccept
