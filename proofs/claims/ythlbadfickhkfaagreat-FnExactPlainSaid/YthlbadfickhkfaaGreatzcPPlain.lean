/- The statement on Plain. No condition. -/
import Derived.Test.YthlbadfickhkfaaGreatRows
import Derived.Test.YthlbadfickhkfaaGreatzcL18
import Derived.Test.YthlbadfickhkfaaGreathBwdzc
import Derived.ProofKit
namespace Go.Proofs.YthlbadfickhkfaaGreat.fnExactPlain
set_option linter.unusedVariables false
open Go.Aw Go.RowKit
attribute [local irreducible] Go.Aw.A0l
theorem own : ownKnob Tryz.prog.godebug = none := by kernel_rfl
theorem contract : ∀ Vs, b1O ([(true, [.sl [.i .i64, .s, .i .i64], .sl [.i .i64, .s, .sl [.s, .i .i64, .s], .sl [.i .i64, .s, .sl [.s, .i .i64, .s], .i .i64, .s, .i .i64, .s, .s, .i .i64, .s]]])] : List (Bool × List Sh)) Vs → Go.Aw.A0l Tryz.prog 6 Vs [] (.one (false, [.b true])) := by
 intro Vs h
 obtain ⟨_, _, rfl, h0, g0⟩ := vsC h
 obtain ⟨a0, rfl⟩ := b6r h0
 obtain rfl := vsN g0
 exact a1q a0
set_option maxRecDepth 100000 in
theorem lifted (os : Os) (started : os.Started) (H : Type) (enc : TypeId × Value → H) :
  ReturnsInHanded {} Tryz.checked os 6 .any (Rows.fnExactPlainSpec.pre6 enc Tryz.prog Tryz.f6 Rows.fnExactPlainRow.domain false) (Rows.fnExactPlainSpec.post enc Tryz.prog Tryz.f6 false true false false) := by
 refine returnsInHanded_of_change (C := Tryz.checked) own started (by kernel_rfl) Tryz.func6
  (ChangeSpec.witness6 (enc := enc) (C := Tryz.checked) false ⟨#[], #[.agg #[.slice none 0 0, .slice none 0 0]], []⟩ 24 (by kernel_rfl) (by kernel_rfl) (by kernel_rfl) (by kernel_rfl)) ?_
 intro W base args ds gs before hval hW _ _
 exact c2L (n := 24) (ps := [(true, [.sl [.i .i64, .s, .i .i64], .sl [.i .i64, .s, .sl [.s, .i .i64, .s], .sl [.i .i64, .s, .sl [.s, .i .i64, .s], .i .i64, .s, .i .i64, .s, .s, .i .i64, .s]]])]) (by kernel_rfl) rfl (by kernel_rfl) Tryz.underlying4 (fun ds hl => by
  match ds, hl with
  | [d0], _ => exact ⟨rfl, rfl, rfl⟩) contract W base args ds gs before hval hW
theorem r1 : Tryz.pinned.checked.prog.funcNamed Rows.fnExactPlainRow.func = some 6 := by kernel_rfl
theorem q1 : jf1 Tryz.pinned.checked.prog Tryz.f6 Rows.fnExactPlainSpec Rows.fnExactPlainRow = true := by kernel_rfl
theorem q2 : jf2 Tryz.pinned.checked.prog 6 Rows.fnExactPlainRow = true := by kernel_rfl
theorem q3 : jf3 Tryz.pinned.checked.prog Tryz.f6 Rows.fnExactPlainSpec Rows.fnExactPlainRow = true := by kernel_rfl
theorem q4 : jf4 Tryz.pinned.checked.prog Tryz.f6 Rows.fnExactPlainSpec Rows.fnExactPlainRow = true := by kernel_rfl
theorem q5 : jf5 Tryz.pinned.checked.prog = true := by kernel_rfl
theorem q6 : jf6 Tryz.pinned.checked.prog = true := by kernel_rfl
theorem q7 : jf7 Tryz.pinned.checked.prog Rows.fnExactPlainRow = true := by kernel_rfl
theorem q8 : jf8 Tryz.pinned.checked.prog Tryz.f6 Rows.fnExactPlainRow = true := by kernel_rfl
theorem q9 : jf9 Tryz.pinned.checked.prog Tryz.f6 Rows.fnExactPlainSpec Rows.fnExactPlainRow = true := by kernel_rfl
theorem r2 : joinedFacts Tryz.pinned.checked.prog 6 Tryz.f6 Rows.fnExactPlainSpec Rows.fnExactPlainRow = true := c1k _ _ _ _ _ q1 q2 q3 q4 q5 q6 q7 q8 q9
theorem r3 : Tryz.f6.isInstance Tryz.pinned.checked.prog Rows.fnExactPlainRow.origin Rows.fnExactPlainRow.targs := of_decide_eq_true (by kernel_rfl)
theorem r4 : Tryz.f6.isWrapper Tryz.pinned.checked.prog Rows.fnExactPlainRow.wrapper Rows.fnExactPlainRow.mainSum := by unfold Func.isWrapper; first | (rw [if_pos (by decide +kernel)]; kernel_rfl) | (rw [if_neg (by decide +kernel)]; exact ⟨rfl, rfl⟩)
theorem said : Rows.FnExactPlainSaid :=
 OpenClaim.holds_of_wide 6 Tryz.f6 rfl rfl rfl rfl rfl rfl rfl ⟨rfl, rfl, rfl, rfl, rfl⟩ rfl rfl rfl rfl rfl r1 Tryz.func6 r2 r3 r4
  (fun os started H enc _ => lifted os started H enc)
#print axioms said
end Go.Proofs.YthlbadfickhkfaaGreat.fnExactPlain
