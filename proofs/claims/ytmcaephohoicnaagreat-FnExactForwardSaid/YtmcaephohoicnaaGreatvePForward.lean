/- The statement on Forward. No condition. -/
import Derived.Test.YtmcaephohoicnaaGreatRows
import Derived.Test.YtmcaephohoicnaaGreatveL35
import Derived.Test.YtmcaephohoicnaaGreatpBwdve
import Derived.ProofKit
namespace Go.Proofs.YtmcaephohoicnaaGreat.fnExactForward
set_option linter.all false
open Go.Aw Go.RowKit
attribute [local irreducible] Go.Aw.A0c
theorem own : ownKnob Tryz.prog.godebug = none := by kernel_rfl
theorem contract : ∀ Vs, b7y ([(true, [.sl [.i .i64, .s, .i .i64], .sl [.i .i64, .s, .sl [.s, .i .i64, .s], .sl [.i .i64, .s, .sl [.s, .i .i64, .s], .i .i64, .s, .i .i64, .s, .s, .i .i64, .s]]]), (true, [.sl [.s, .i .i64, .sl [.sl [.i .i64, .s]]]]), (false, [.i .i64]), (false, [.i .i64]), (false, [.i .i64]), (false, [.i .i64])] : List (Bool × List Sh)) Vs → Go.Aw.A0c Tryz.prog 7 Vs [] (.one (false, [.b true])) := by
 intro Vs h
 obtain ⟨_, _, rfl, h0, g0⟩ := vsC h
 obtain ⟨a0, rfl⟩ := c6p h0
 obtain ⟨_, _, rfl, h1, g1⟩ := vsC g0
 obtain ⟨a1, rfl⟩ := d3H h1
 obtain ⟨_, _, rfl, h2, g2⟩ := vsC g1
 obtain ⟨a2, _, rfl, k2⟩ := b1T h2
 obtain rfl := b3M k2
 obtain ⟨_, _, rfl, h3, g3⟩ := vsC g2
 obtain ⟨a3, _, rfl, k3⟩ := b1T h3
 obtain rfl := b3M k3
 obtain ⟨_, _, rfl, h4, g4⟩ := vsC g3
 obtain ⟨a4, _, rfl, k4⟩ := b1T h4
 obtain rfl := b3M k4
 obtain ⟨_, _, rfl, h5, g5⟩ := vsC g4
 obtain ⟨a5, _, rfl, k5⟩ := b1T h5
 obtain rfl := b3M k5
 obtain rfl := vsN g5
 exact a2v a0 a1 a2 a3 a4 a5
set_option maxRecDepth 100000 in
theorem lifted (os : Os) (started : os.Started) (H : Type) (enc : TypeId × Value → H) :
  ReturnsInHanded {} Tryz.checked os 7 .any (Rows.fnExactForwardSpec.pre6 enc Tryz.prog Tryz.f7 Rows.fnExactForwardRow.domain false) (Rows.fnExactForwardSpec.post enc Tryz.prog Tryz.f7 false true false false) := by
 refine returnsInHanded_of_change (C := Tryz.checked) own started (by kernel_rfl) Tryz.func7
  (ChangeSpec.witness6 (enc := enc) (C := Tryz.checked) false ⟨#[], #[.agg #[.slice none 0 0, .slice none 0 0], .agg #[.slice none 0 0], .int .i64 0, .int .i64 0, .int .i64 0, .int .i64 0], []⟩ 24 (by kernel_rfl) (by kernel_rfl) (by kernel_rfl) (by kernel_rfl)) ?_
 intro W base args ds gs before hval hW _ _
 exact d7W (n := 24) (ps := [(true, [.sl [.i .i64, .s, .i .i64], .sl [.i .i64, .s, .sl [.s, .i .i64, .s], .sl [.i .i64, .s, .sl [.s, .i .i64, .s], .i .i64, .s, .i .i64, .s, .s, .i .i64, .s]]]), (true, [.sl [.s, .i .i64, .sl [.sl [.i .i64, .s]]]]), (false, [.i .i64]), (false, [.i .i64]), (false, [.i .i64]), (false, [.i .i64])]) (by kernel_rfl) rfl (by kernel_rfl) Tryz.underlying4 (fun ds hl => by
  match ds, hl with
  | [d0, d1, d2, d3, d4, d5], _ => exact ⟨rfl, rfl, rfl⟩) contract W base args ds gs before hval hW
theorem r1 : Tryz.pinned.checked.prog.funcNamed Rows.fnExactForwardRow.func = some 7 := by kernel_rfl
theorem q1 : jf1 Tryz.pinned.checked.prog Tryz.f7 Rows.fnExactForwardSpec Rows.fnExactForwardRow = true := by kernel_rfl
theorem q2 : jf2 Tryz.pinned.checked.prog 7 Rows.fnExactForwardRow = true := by kernel_rfl
theorem q3 : jf3 Tryz.pinned.checked.prog Tryz.f7 Rows.fnExactForwardSpec Rows.fnExactForwardRow = true := by kernel_rfl
theorem q4 : jf4 Tryz.pinned.checked.prog Tryz.f7 Rows.fnExactForwardSpec Rows.fnExactForwardRow = true := by kernel_rfl
theorem q5 : jf5 Tryz.pinned.checked.prog = true := by kernel_rfl
theorem q6 : jf6 Tryz.pinned.checked.prog = true := by kernel_rfl
theorem q7 : jf7 Tryz.pinned.checked.prog Rows.fnExactForwardRow = true := by kernel_rfl
theorem q8 : jf8 Tryz.pinned.checked.prog Tryz.f7 Rows.fnExactForwardRow = true := by kernel_rfl
theorem q9 : jf9 Tryz.pinned.checked.prog Tryz.f7 Rows.fnExactForwardSpec Rows.fnExactForwardRow = true := by kernel_rfl
theorem r2 : joinedFacts Tryz.pinned.checked.prog 7 Tryz.f7 Rows.fnExactForwardSpec Rows.fnExactForwardRow = true := d5b _ _ _ _ _ q1 q2 q3 q4 q5 q6 q7 q8 q9
theorem r3 : Tryz.f7.isInstance Tryz.pinned.checked.prog Rows.fnExactForwardRow.origin Rows.fnExactForwardRow.targs := of_decide_eq_true (by kernel_rfl)
theorem r4 : Tryz.f7.isWrapper Tryz.pinned.checked.prog Rows.fnExactForwardRow.wrapper Rows.fnExactForwardRow.mainSum := by unfold Func.isWrapper; first | (rw [if_pos (by decide +kernel)]; kernel_rfl) | (rw [if_neg (by decide +kernel)]; exact ⟨rfl, rfl⟩)
theorem said : Rows.FnExactForwardSaid :=
 OpenClaim.holds_of_wide 7 Tryz.f7 rfl rfl rfl rfl rfl rfl rfl ⟨rfl, rfl, rfl, rfl, rfl⟩ rfl rfl rfl rfl rfl r1 Tryz.func7 r2 r3 r4
  (fun os started H enc _ => lifted os started H enc)
#print axioms said
end Go.Proofs.YtmcaephohoicnaaGreat.fnExactForward
