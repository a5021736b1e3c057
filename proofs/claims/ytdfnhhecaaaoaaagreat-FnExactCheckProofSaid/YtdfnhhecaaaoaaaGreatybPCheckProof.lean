/- The statement on CheckProof. No condition. -/
import Derived.Test.YtdfnhhecaaaoaaaGreatRows
import Derived.Test.YtdfnhhecaaaoaaaGreatybL31
import Derived.Test.YtdfnhhecaaaoaaaGreatnBwdyb
import Derived.ProofKit
namespace Go.Proofs.YtdfnhhecaaaoaaaGreat.fnExactCheckProof
set_option linter.all false
open Go.Aw Go.RowKit
attribute [local irreducible] Go.Aw.Z9
theorem own : ownKnob Tryz.prog.godebug = none := by kernel_rfl
theorem contract : ∀ Vs, b1Y ([(true, [.sl [.i .i64, .s, .i .i64], .sl [.i .i64, .s, .sl [.s, .i .i64, .s], .sl [.i .i64, .s, .sl [.s, .i .i64, .s], .i .i64, .s, .i .i64, .s, .s, .i .i64, .s]]]), (true, [.sl [.s, .i .i64, .sl [.sl [.i .i64, .s]]]]), (true, [.sl [.s, .i .i64, .sl [.sl [.i .i64, .s]]]]), (false, [.sl [.s, .sl [.i .i64, .s], .i .i64, .sl [.s, .i .i64, .s]]])] : List (Bool × List Sh)) Vs → Go.Aw.Z9 Tryz.prog 7 Vs [] (.one (false, [.b true])) := by
 intro Vs h
 obtain ⟨_, _, rfl, h0, g0⟩ := vsC h
 obtain ⟨a0, rfl⟩ := b8R h0
 obtain ⟨_, _, rfl, h1, g1⟩ := vsC g0
 obtain ⟨a1, rfl⟩ := b6A h1
 obtain ⟨_, _, rfl, h2, g2⟩ := vsC g1
 obtain ⟨a2, rfl⟩ := b6A h2
 obtain ⟨_, _, rfl, h3, g3⟩ := vsC g2
 obtain ⟨r3, _, rfl, k3, l3⟩ := b3u h3
 obtain rfl := b1n l3
 obtain ⟨a3, rfl⟩ := a0K (fun r hr => c6X (k3 r hr))
 obtain rfl := vsN g3
 exact a0i a0 a1 a2 a3
set_option maxRecDepth 100000 in
theorem lifted (os : Os) (started : os.Started) (H : Type) (enc : TypeId × Value → H) :
  ReturnsInHanded {} Tryz.checked os 7 .any (Rows.fnExactCheckProofSpec.pre6 enc Tryz.prog Tryz.f7 Rows.fnExactCheckProofRow.domain false) (Rows.fnExactCheckProofSpec.post enc Tryz.prog Tryz.f7 false true false false) := by
 refine returnsInHanded_of_change (C := Tryz.checked) own started (by kernel_rfl) Tryz.func7
  (ChangeSpec.witness6 (enc := enc) (C := Tryz.checked) false ⟨#[], #[.agg #[.slice none 0 0, .slice none 0 0], .agg #[.slice none 0 0], .agg #[.slice none 0 0], .slice none 0 0], []⟩ 24 (by kernel_rfl) (by kernel_rfl) (by kernel_rfl) (by kernel_rfl)) ?_
 intro W base args ds gs before hval hW _ _
 exact c7N (n := 24) (ps := [(true, [.sl [.i .i64, .s, .i .i64], .sl [.i .i64, .s, .sl [.s, .i .i64, .s], .sl [.i .i64, .s, .sl [.s, .i .i64, .s], .i .i64, .s, .i .i64, .s, .s, .i .i64, .s]]]), (true, [.sl [.s, .i .i64, .sl [.sl [.i .i64, .s]]]]), (true, [.sl [.s, .i .i64, .sl [.sl [.i .i64, .s]]]]), (false, [.sl [.s, .sl [.i .i64, .s], .i .i64, .sl [.s, .i .i64, .s]]])]) (by kernel_rfl) rfl (by kernel_rfl) Tryz.underlying4 (fun ds hl => by
  match ds, hl with
  | [d0, d1, d2, d3], _ => exact ⟨rfl, rfl, rfl⟩) contract W base args ds gs before hval hW
theorem r1 : Tryz.pinned.checked.prog.funcNamed Rows.fnExactCheckProofRow.func = some 7 := by kernel_rfl
theorem q1 : jf1 Tryz.pinned.checked.prog Tryz.f7 Rows.fnExactCheckProofSpec Rows.fnExactCheckProofRow = true := by kernel_rfl
theorem q2 : jf2 Tryz.pinned.checked.prog 7 Rows.fnExactCheckProofRow = true := by kernel_rfl
theorem q3 : jf3 Tryz.pinned.checked.prog Tryz.f7 Rows.fnExactCheckProofSpec Rows.fnExactCheckProofRow = true := by kernel_rfl
theorem q4 : jf4 Tryz.pinned.checked.prog Tryz.f7 Rows.fnExactCheckProofSpec Rows.fnExactCheckProofRow = true := by kernel_rfl
theorem q5 : jf5 Tryz.pinned.checked.prog = true := by kernel_rfl
theorem q6 : jf6 Tryz.pinned.checked.prog = true := by kernel_rfl
theorem q7 : jf7 Tryz.pinned.checked.prog Rows.fnExactCheckProofRow = true := by kernel_rfl
theorem q8 : jf8 Tryz.pinned.checked.prog Tryz.f7 Rows.fnExactCheckProofRow = true := by kernel_rfl
theorem q9 : jf9 Tryz.pinned.checked.prog Tryz.f7 Rows.fnExactCheckProofSpec Rows.fnExactCheckProofRow = true := by kernel_rfl
theorem r2 : joinedFacts Tryz.pinned.checked.prog 7 Tryz.f7 Rows.fnExactCheckProofSpec Rows.fnExactCheckProofRow = true := c5x _ _ _ _ _ q1 q2 q3 q4 q5 q6 q7 q8 q9
theorem r3 : Tryz.f7.isInstance Tryz.pinned.checked.prog Rows.fnExactCheckProofRow.origin Rows.fnExactCheckProofRow.targs := of_decide_eq_true (by kernel_rfl)
theorem r4 : Tryz.f7.isWrapper Tryz.pinned.checked.prog Rows.fnExactCheckProofRow.wrapper Rows.fnExactCheckProofRow.mainSum := by unfold Func.isWrapper; first | (rw [if_pos (by decide +kernel)]; kernel_rfl) | (rw [if_neg (by decide +kernel)]; exact ⟨rfl, rfl⟩)
theorem said : Rows.FnExactCheckProofSaid :=
 OpenClaim.holds_of_wide 7 Tryz.f7 rfl rfl rfl rfl rfl rfl rfl ⟨rfl, rfl, rfl, rfl, rfl⟩ rfl rfl rfl rfl rfl r1 Tryz.func7 r2 r3 r4
  (fun os started H enc _ => lifted os started H enc)
#print axioms said
end Go.Proofs.YtdfnhhecaaaoaaaGreat.fnExactCheckProof
