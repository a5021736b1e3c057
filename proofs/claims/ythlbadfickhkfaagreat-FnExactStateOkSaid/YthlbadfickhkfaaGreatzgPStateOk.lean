/- The statement on StateOk. No condition. -/
import Derived.Test.YthlbadfickhkfaaGreatRows
import Derived.Test.YthlbadfickhkfaaGreatzgL22
import Derived.Test.YthlbadfickhkfaaGreathBwdzg
import Derived.ProofKit
namespace Go.Proofs.YthlbadfickhkfaaGreat.fnExactStateOk
set_option linter.unusedVariables false
open Go.Aw Go.RowKit
attribute [local irreducible] Go.Aw.A0l
theorem own : ownKnob Tryz.prog.godebug = none := by kernel_rfl
theorem contract : ∀ Vs, b5A ([(true, [.sl [.i .i64, .s, .i .i64], .sl [.i .i64, .s, .sl [.s, .i .i64, .s], .sl [.i .i64, .s, .sl [.s, .i .i64, .s], .i .i64, .s, .i .i64, .s, .s, .i .i64, .s]]]), (true, [.sl [.s, .i .i64, .sl [.sl [.i .i64, .s]]]])] : List (Bool × List Sh)) Vs → Go.Aw.A0l Tryz.prog 9 Vs [] (.one (false, [.b true])) := by
 intro Vs h
 obtain ⟨_, _, rfl, h0, g0⟩ := vsC h
 obtain ⟨a0, rfl⟩ := c1i h0
 obtain ⟨_, _, rfl, h1, g1⟩ := vsC g0
 obtain ⟨a1, rfl⟩ := c5R h1
 obtain rfl := vsN g1
 exact a0P a0 a1
set_option maxRecDepth 100000 in
theorem lifted (os : Os) (started : os.Started) (H : Type) (enc : TypeId × Value → H) :
  ReturnsInHanded {} Tryz.checked os 9 .any (Rows.fnExactStateOkSpec.pre6 enc Tryz.prog Tryz.f9 Rows.fnExactStateOkRow.domain false) (Rows.fnExactStateOkSpec.post enc Tryz.prog Tryz.f9 false true false false) := by
 refine returnsInHanded_of_change (C := Tryz.checked) own started (by kernel_rfl) Tryz.func9
  (ChangeSpec.witness6 (enc := enc) (C := Tryz.checked) false ⟨#[], #[.agg #[.slice none 0 0, .slice none 0 0], .agg #[.slice none 0 0]], []⟩ 24 (by kernel_rfl) (by kernel_rfl) (by kernel_rfl) (by kernel_rfl)) ?_
 intro W base args ds gs before hval hW _ _
 exact c8D (n := 24) (ps := [(true, [.sl [.i .i64, .s, .i .i64], .sl [.i .i64, .s, .sl [.s, .i .i64, .s], .sl [.i .i64, .s, .sl [.s, .i .i64, .s], .i .i64, .s, .i .i64, .s, .s, .i .i64, .s]]]), (true, [.sl [.s, .i .i64, .sl [.sl [.i .i64, .s]]]])]) (by kernel_rfl) rfl (by kernel_rfl) Tryz.underlying4 (fun ds hl => by
  match ds, hl with
  | [d0, d1], _ => exact ⟨rfl, rfl, rfl⟩) contract W base args ds gs before hval hW
theorem r1 : Tryz.pinned.checked.prog.funcNamed Rows.fnExactStateOkRow.func = some 9 := by kernel_rfl
theorem q1 : jf1 Tryz.pinned.checked.prog Tryz.f9 Rows.fnExactStateOkSpec Rows.fnExactStateOkRow = true := by kernel_rfl
theorem q2 : jf2 Tryz.pinned.checked.prog 9 Rows.fnExactStateOkRow = true := by kernel_rfl
theorem q3 : jf3 Tryz.pinned.checked.prog Tryz.f9 Rows.fnExactStateOkSpec Rows.fnExactStateOkRow = true := by kernel_rfl
theorem q4 : jf4 Tryz.pinned.checked.prog Tryz.f9 Rows.fnExactStateOkSpec Rows.fnExactStateOkRow = true := by kernel_rfl
theorem q5 : jf5 Tryz.pinned.checked.prog = true := by kernel_rfl
theorem q6 : jf6 Tryz.pinned.checked.prog = true := by kernel_rfl
theorem q7 : jf7 Tryz.pinned.checked.prog Rows.fnExactStateOkRow = true := by kernel_rfl
theorem q8 : jf8 Tryz.pinned.checked.prog Tryz.f9 Rows.fnExactStateOkRow = true := by kernel_rfl
theorem q9 : jf9 Tryz.pinned.checked.prog Tryz.f9 Rows.fnExactStateOkSpec Rows.fnExactStateOkRow = true := by kernel_rfl
theorem r2 : joinedFacts Tryz.pinned.checked.prog 9 Tryz.f9 Rows.fnExactStateOkSpec Rows.fnExactStateOkRow = true := c6Q _ _ _ _ _ q1 q2 q3 q4 q5 q6 q7 q8 q9
theorem r3 : Tryz.f9.isInstance Tryz.pinned.checked.prog Rows.fnExactStateOkRow.origin Rows.fnExactStateOkRow.targs := of_decide_eq_true (by kernel_rfl)
theorem r4 : Tryz.f9.isWrapper Tryz.pinned.checked.prog Rows.fnExactStateOkRow.wrapper Rows.fnExactStateOkRow.mainSum := by unfold Func.isWrapper; first | (rw [if_pos (by decide +kernel)]; kernel_rfl) | (rw [if_neg (by decide +kernel)]; exact ⟨rfl, rfl⟩)
theorem said : Rows.FnExactStateOkSaid :=
 OpenClaim.holds_of_wide 9 Tryz.f9 rfl rfl rfl rfl rfl rfl rfl ⟨rfl, rfl, rfl, rfl, rfl⟩ rfl rfl rfl rfl rfl r1 Tryz.func9 r2 r3 r4
  (fun os started H enc _ => lifted os started H enc)
#print axioms said
end Go.Proofs.YthlbadfickhkfaaGreat.fnExactStateOk
