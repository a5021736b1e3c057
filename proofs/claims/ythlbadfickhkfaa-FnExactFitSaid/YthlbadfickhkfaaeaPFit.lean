/- The statement on Fit. No condition. -/
import Derived.Test.YthlbadfickhkfaaRows
import Derived.Test.YthlbadfickhkfaaeaL23
import Derived.Test.YthlbadfickhkfaaiBwdea
import Derived.ProofKit
namespace Go.Proofs.Ythlbadfickhkfaa.fnExactFit
set_option linter.unusedVariables false
open Go.Aw Go.RowKit
attribute [local irreducible] Go.Aw.A0l
theorem own : ownKnob Try.prog.godebug = none := by kernel_rfl
theorem contract : ∀ Vs, a5i ([(true, [.sl [.s, .i .i64, .s]]), (false, [.sl [.s, .i .i64, .s]]), (true, [.sl [.i .i64, .s]])] : List (Bool × List Sh)) Vs → Go.Aw.A0l Try.prog 4 Vs [] (.one (false, [.b true])) := by
 intro Vs h
 obtain ⟨_, _, rfl, h0, g0⟩ := vsC h
 obtain ⟨a0, rfl⟩ := GEnv_of h0
 obtain ⟨_, _, rfl, h1, g1⟩ := vsC g0
 obtain ⟨r1, _, rfl, k1, l1⟩ := hasL h1
 obtain rfl := hasN l1
 obtain ⟨a1, rfl⟩ := a7L (fun r hr => b1i (k1 r hr))
 obtain ⟨_, _, rfl, h2, g2⟩ := vsC g1
 obtain ⟨a2, rfl⟩ := GRow_of h2
 obtain rfl := vsN g2
 exact z9 a0 a1 a2
set_option maxRecDepth 100000 in
theorem lifted (os : Os) (started : os.Started) (H : Type) (enc : TypeId × Value → H) :
  ReturnsInHanded {} Try.checked os 4 .any (Rows.fnExactFitSpec.pre6 enc Try.prog Try.f4 Rows.fnExactFitRow.domain false) (Rows.fnExactFitSpec.post enc Try.prog Try.f4 false true false false) := by
 refine returnsInHanded_of_change (C := Try.checked) own started (by kernel_rfl) Try.func4
  (ChangeSpec.witness6 (enc := enc) (C := Try.checked) false ⟨#[], #[.agg #[.slice none 0 0], .slice none 0 0, .agg #[.slice none 0 0]], []⟩ 24 (by kernel_rfl) (by kernel_rfl) (by kernel_rfl) (by kernel_rfl)) ?_
 intro W base args ds gs before hval hW _ _
 exact b1C (n := 24) (ps := [(true, [.sl [.s, .i .i64, .s]]), (false, [.sl [.s, .i .i64, .s]]), (true, [.sl [.i .i64, .s]])]) (by kernel_rfl) rfl (by kernel_rfl) Try.underlying4 (fun ds hl => by
  match ds, hl with
  | [d0, d1, d2], _ => exact ⟨rfl, rfl, rfl⟩) contract W base args ds gs before hval hW
theorem r1 : Try.pinned.checked.prog.funcNamed Rows.fnExactFitRow.func = some 4 := by kernel_rfl
theorem q1 : jf1 Try.pinned.checked.prog Try.f4 Rows.fnExactFitSpec Rows.fnExactFitRow = true := by kernel_rfl
theorem q2 : jf2 Try.pinned.checked.prog 4 Rows.fnExactFitRow = true := by kernel_rfl
theorem q3 : jf3 Try.pinned.checked.prog Try.f4 Rows.fnExactFitSpec Rows.fnExactFitRow = true := by kernel_rfl
theorem q4 : jf4 Try.pinned.checked.prog Try.f4 Rows.fnExactFitSpec Rows.fnExactFitRow = true := by kernel_rfl
theorem q5 : jf5 Try.pinned.checked.prog = true := by kernel_rfl
theorem q6 : jf6 Try.pinned.checked.prog = true := by kernel_rfl
theorem q7 : jf7 Try.pinned.checked.prog Rows.fnExactFitRow = true := by kernel_rfl
theorem q8 : jf8 Try.pinned.checked.prog Try.f4 Rows.fnExactFitRow = true := by kernel_rfl
theorem q9 : jf9 Try.pinned.checked.prog Try.f4 Rows.fnExactFitSpec Rows.fnExactFitRow = true := by kernel_rfl
theorem r2 : joinedFacts Try.pinned.checked.prog 4 Try.f4 Rows.fnExactFitSpec Rows.fnExactFitRow = true := b0z _ _ _ _ _ q1 q2 q3 q4 q5 q6 q7 q8 q9
theorem r3 : Try.f4.isInstance Try.pinned.checked.prog Rows.fnExactFitRow.origin Rows.fnExactFitRow.targs := of_decide_eq_true (by kernel_rfl)
theorem r4 : Try.f4.isWrapper Try.pinned.checked.prog Rows.fnExactFitRow.wrapper Rows.fnExactFitRow.mainSum := by unfold Func.isWrapper; first | (rw [if_pos (by decide +kernel)]; kernel_rfl) | (rw [if_neg (by decide +kernel)]; exact ⟨rfl, rfl⟩)
theorem said : Rows.FnExactFitSaid :=
 OpenClaim.holds_of_wide 4 Try.f4 rfl rfl rfl rfl rfl rfl rfl ⟨rfl, rfl, rfl, rfl, rfl⟩ rfl rfl rfl rfl rfl r1 Try.func4 r2 r3 r4
  (fun os started H enc _ => lifted os started H enc)
#print axioms said
end Go.Proofs.Ythlbadfickhkfaa.fnExactFit
