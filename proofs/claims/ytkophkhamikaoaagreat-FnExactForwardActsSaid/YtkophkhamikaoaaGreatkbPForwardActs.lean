/- The statement on ForwardActs. No condition. -/
import Derived.Test.YtkophkhamikaoaaGreatRows
import Derived.Test.YtkophkhamikaoaaGreatkbL43
import Derived.Test.YtkophkhamikaoaaGreatlBwdkb
import Derived.ProofKit
namespace Go.Proofs.YtkophkhamikaoaaGreat.fnExactForwardActs
set_option linter.all false
open Go.Aw Go.RowKit
attribute [local irreducible] Go.Aw.A0e
theorem own : ownKnob Tryz.prog.godebug = none := by kernel_rfl
theorem contract : ∀ Vs, b9w ([(true, [.sl [.i .i64, .s, .i .i64], .sl [.i .i64, .s, .sl [.s, .i .i64, .s], .sl [.i .i64, .s, .sl [.s, .i .i64, .s], .i .i64, .s, .i .i64, .s, .s, .i .i64, .s]]]), (true, [.sl [.s, .i .i64, .sl [.sl [.i .i64, .s]]]]), (false, [.i .i64]), (false, [.sl [.i .i64]]), (false, [.i .i64]), (false, [.i .i64]), (false, [.i .i64])] : List (Bool × List Sh)) Vs → Go.Aw.A0e Tryz.prog 3 Vs [] (.one (false, [.b true])) := by
 intro Vs h
 obtain ⟨_, _, rfl, h0, g0⟩ := vsC h
 obtain ⟨a0, rfl⟩ := c8Y h0
 obtain ⟨_, _, rfl, h1, g1⟩ := vsC g0
 obtain ⟨a1, rfl⟩ := d7h h1
 obtain ⟨_, _, rfl, h2, g2⟩ := vsC g1
 obtain ⟨a2, _, rfl, k2⟩ := b1J h2
 obtain rfl := b1K k2
 obtain ⟨_, _, rfl, h3, g3⟩ := vsC g2
 obtain ⟨r3, _, rfl, k3, l3⟩ := c7x h3
 obtain rfl := b1K l3
 obtain ⟨a3, rfl⟩ := a4u (fun r hr => cInt_of (k3 r hr))
 obtain ⟨_, _, rfl, h4, g4⟩ := vsC g3
 obtain ⟨a4, _, rfl, k4⟩ := b1J h4
 obtain rfl := b1K k4
 obtain ⟨_, _, rfl, h5, g5⟩ := vsC g4
 obtain ⟨a5, _, rfl, k5⟩ := b1J h5
 obtain rfl := b1K k5
 obtain ⟨_, _, rfl, h6, g6⟩ := vsC g5
 obtain ⟨a6, _, rfl, k6⟩ := b1J h6
 obtain rfl := b1K k6
 obtain rfl := vsN g6
 exact a2c a0 a1 a2 a3 a4 a5 a6
set_option maxRecDepth 100000 in
theorem lifted (os : Os) (started : os.Started) (H : Type) (enc : TypeId × Value → H) :
  ReturnsInHanded {} Tryz.checked os 3 .any (Rows.fnExactForwardActsSpec.pre6 enc Tryz.prog Tryz.f3 Rows.fnExactForwardActsRow.domain false) (Rows.fnExactForwardActsSpec.post enc Tryz.prog Tryz.f3 false true false false) := by
 refine returnsInHanded_of_change (C := Tryz.checked) own started (by kernel_rfl) Tryz.func3
  (ChangeSpec.witness6 (enc := enc) (C := Tryz.checked) false ⟨#[], #[.agg #[.slice none 0 0, .slice none 0 0], .agg #[.slice none 0 0], .int .i64 0, .slice none 0 0, .int .i64 0, .int .i64 0, .int .i64 0], []⟩ 24 (by kernel_rfl) (by kernel_rfl) (by kernel_rfl) (by kernel_rfl)) ?_
 intro W base args ds gs before hval hW _ _
 exact e1V (n := 24) (ps := [(true, [.sl [.i .i64, .s, .i .i64], .sl [.i .i64, .s, .sl [.s, .i .i64, .s], .sl [.i .i64, .s, .sl [.s, .i .i64, .s], .i .i64, .s, .i .i64, .s, .s, .i .i64, .s]]]), (true, [.sl [.s, .i .i64, .sl [.sl [.i .i64, .s]]]]), (false, [.i .i64]), (false, [.sl [.i .i64]]), (false, [.i .i64]), (false, [.i .i64]), (false, [.i .i64])]) (by kernel_rfl) rfl (by kernel_rfl) Tryz.underlying4 (fun ds hl => by
  match ds, hl with
  | [d0, d1, d2, d3, d4, d5, d6], _ => exact ⟨rfl, rfl, rfl⟩) contract W base args ds gs before hval hW
theorem r1 : Tryz.pinned.checked.prog.funcNamed Rows.fnExactForwardActsRow.func = some 3 := by kernel_rfl
theorem q1 : jf1 Tryz.pinned.checked.prog Tryz.f3 Rows.fnExactForwardActsSpec Rows.fnExactForwardActsRow = true := by kernel_rfl
theorem q2 : jf2 Tryz.pinned.checked.prog 3 Rows.fnExactForwardActsRow = true := by kernel_rfl
theorem q3 : jf3 Tryz.pinned.checked.prog Tryz.f3 Rows.fnExactForwardActsSpec Rows.fnExactForwardActsRow = true := by kernel_rfl
theorem q4 : jf4 Tryz.pinned.checked.prog Tryz.f3 Rows.fnExactForwardActsSpec Rows.fnExactForwardActsRow = true := by kernel_rfl
theorem q5 : jf5 Tryz.pinned.checked.prog = true := by kernel_rfl
theorem q6 : jf6 Tryz.pinned.checked.prog = true := by kernel_rfl
theorem q7 : jf7 Tryz.pinned.checked.prog Rows.fnExactForwardActsRow = true := by kernel_rfl
theorem q8 : jf8 Tryz.pinned.checked.prog Tryz.f3 Rows.fnExactForwardActsRow = true := by kernel_rfl
theorem q9 : jf9 Tryz.pinned.checked.prog Tryz.f3 Rows.fnExactForwardActsSpec Rows.fnExactForwardActsRow = true := by kernel_rfl
theorem r2 : joinedFacts Tryz.pinned.checked.prog 3 Tryz.f3 Rows.fnExactForwardActsSpec Rows.fnExactForwardActsRow = true := d8M _ _ _ _ _ q1 q2 q3 q4 q5 q6 q7 q8 q9
theorem r3 : Tryz.f3.isInstance Tryz.pinned.checked.prog Rows.fnExactForwardActsRow.origin Rows.fnExactForwardActsRow.targs := of_decide_eq_true (by kernel_rfl)
theorem r4 : Tryz.f3.isWrapper Tryz.pinned.checked.prog Rows.fnExactForwardActsRow.wrapper Rows.fnExactForwardActsRow.mainSum := by unfold Func.isWrapper; first | (rw [if_pos (by decide +kernel)]; kernel_rfl) | (rw [if_neg (by decide +kernel)]; exact ⟨rfl, rfl⟩)
theorem said : Rows.FnExactForwardActsSaid :=
 OpenClaim.holds_of_wide 3 Tryz.f3 rfl rfl rfl rfl rfl rfl rfl ⟨rfl, rfl, rfl, rfl, rfl⟩ rfl rfl rfl rfl rfl r1 Tryz.func3 r2 r3 r4
  (fun os started H enc _ => lifted os started H enc)
#print axioms said
end Go.Proofs.YtkophkhamikaoaaGreat.fnExactForwardActs
