/- Flows: sizes, copies, equalities. No condition. -/
import Derived.Test.YtojlgbkikicklaaGreatzbG1
import Derived.Test.YtojlgbkikicklaaGreatfBwtzb
namespace Go.Aw
open Go.Proofs
attribute [local irreducible] aft blk lpK retK AW SpecO
set_option linter.unusedVariables false
set_option linter.unusedSimpArgs false
set_option maxRecDepth 100000
def totMatch (x : GMatch) : Nat := x.V.length + x.M.length
def totFlow (x : GFlow) : Nat := totMatch x.Match + x.Acts.length
def totHead (x : GHead) : Nat := x.V.length
def ac_laws_eqIntS : ACode := .seq (.reg false [⟨some 4, .mov (.k (.v false [.c (.b false)])), none⟩]) (.seq (.seq (.reg false [⟨some 6, .mov (.t 0), none⟩, ⟨some 7, .len (.t 6), none⟩,
  ⟨some 8, .mov (.t 1), none⟩, ⟨some 9, .len (.t 8), none⟩, ⟨some 10, .bin .neq (.t 7) (.t 9), none⟩]) (.cond (.t 10) (.seq (.reg false [⟨some 4, .mov (.k (.v
  false [.c (.b false)])), none⟩]) .ret) .skip)) (.seq (.seq (.reg false [⟨some 5, .mov (.k (.v false [.c (.i .i64 0)])), none⟩]) (.block 0 (.loop (.seq (.seq
  (.reg false [⟨some 11, .mov (.t 5), none⟩, ⟨some 12, .mov (.t 0), none⟩, ⟨some 13, .len (.t 12), none⟩, ⟨some 14, .bin .lss (.t 11) (.t 13), none⟩]) (.cond
  (.t 14) .skip (.exit 0))) (.seq (.block 1 (.seq (.reg true [⟨some 17, .mov (.t 0), none⟩, ⟨some 18, .mov (.t 5), none⟩, ⟨some 19, .ia 1 (.t 17) (.t 18),
  none⟩, ⟨some 20, .ld false 1 (.t 19), none⟩, ⟨some 21, .mov (.t 1), none⟩, ⟨some 22, .mov (.t 5), none⟩, ⟨some 23, .ia 1 (.t 21) (.t 22), none⟩, ⟨some 24, .ld
  false 1 (.t 23), none⟩, ⟨some 25, .bin .neq (.t 20) (.t 24), none⟩]) (.cond (.t 25) (.seq (.reg false [⟨some 4, .mov (.k (.v false [.c (.b false)])), none⟩])
  .ret) .skip))) (.reg false [⟨some 15, .mov (.t 5), none⟩, ⟨some 16, .bin .add (.t 15) (.k (.v false [.c (.i .i64 1)])), none⟩, ⟨some 5, .mov (.t 16),
  none⟩])))))) (.seq (.reg false [⟨some 4, .mov (.k (.v false [.c (.b true)])), none⟩]) .ret)))
theorem hc_laws_eqIntS : Tryz.f38.body.bind (comp Tryz.prog Tryz.f38.ntmps) = some ac_laws_eqIntS := by kernel_rfl
theorem k_laws_eqIntS (a : List Int) (b : List Int) : SpecO Tryz.prog 38 [(false, [.sl false [.i .i64 0] (a.map cInt)]), (false, [.sl false [.i .i64 0] (b.map cInt)])] [] (.one (false, [.b (decide (a = b))])) := by
  refine spec_of2 false false none Tryz.func38 hc_laws_eqIntS (rvs := [.t 4]) (hΓ := mkCtx_ok (deep := false) (l := []) trivial) (h := ?_)
  intro hb hE
  simp only [go_sem] at hb
  unfold ac_laws_eqIntS
  (try refine AX_AW ?_); simp only [go_sem]; (repeat' first | apply CJ.mk | intro hc); all_goals try ((repeat' first | apply And.intro | intro hs) <;> (try simp only [go_sem, Bool.and_eq_false_iff] at hs) <;> omega)
  · symm
    rw [decide_eq_false_iff_not]
    rintro rfl
    simp at hc
  have hl : a.length = b.length := by simpa [Int.ofNat_inj] using hc
  refine aw_loop2 false [] [0, 1] [] [] (fun i : {i : Nat // i ≤ a.length ∧ a.take i = b.take i} => [(5, slV (.i .i64 i.1))]) (fun i => []) (fun i => []) (fun i => a.length - i.1) (⟨0, by simp⟩) _ rfl ?_ ?_
  · simp only [go_sem]
    all_goals first | omega | ((repeat' apply And.intro) <;> first | omega | rfl | skip)
  intro S0 hS0 i
  simp only [go_sem] at hS0
  obtain ⟨i, hi, ht⟩ := i
  (try refine AX_AW ?_); simp only [go_sem, hS0]; (repeat' first | apply CJ.mk | intro hc); all_goals try ((repeat' first | apply And.intro | intro hs) <;> (try simp only [go_sem, Bool.and_eq_false_iff] at hs) <;> omega)
  · exact (decide_eq_false (ne_of_getD 0 (i := i) (by simpa using hc))).symm
  · (refine lpK_n2 (⟨i + 1, by omega, take_succ_eq ht (by omega) (by omega) (d := 0) (by simpa using hc)⟩) _ rfl ?_; simp only [go_sem, hS0]; first | done | ((repeat' apply And.intro) <;> first | omega | (refine w64 ?_ ?_ ?_ <;> omega) | rfl | skip))
  · exact (decide_eq_true (eq_of_take hl ht (by omega))).symm
  all_goals trace_state
noncomputable def c_laws_eqIntS : List V → Option (Prop × List (Nat × V) × R) := famQ (fun (x : (List Int) × (List Int)) => k_laws_eqIntS x.1 x.2)
@[go_sem] theorem c_laws_eqIntS_eq (a : List Int) (b : List Int) : c_laws_eqIntS [(false, [.sl false [.i .i64 0] (a.map cInt)]), (false, [.sl false [.i .i64 0] (b.map cInt)])] = some (True, [], .one (false, [.b (decide (a = b))])) := famQ_eq _ (by rintro ⟨_, _⟩ ⟨_, _⟩ h; simp at h; simp_all) (a, b)
theorem c_laws_eqIntS_ok : ∀ vs q o r, c_laws_eqIntS vs = some (q, o, r) → q → SpecO Tryz.prog 38 vs o r := famQ_ok _
end Go.Aw
