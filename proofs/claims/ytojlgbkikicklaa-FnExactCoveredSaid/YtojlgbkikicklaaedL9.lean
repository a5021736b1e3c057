/- The law of covering proofs. No condition. -/
import Derived.Test.YtojlgbkikicklaaedT6
import Derived.Test.YtojlgbkikicklaaedB4
namespace Go.Aw
open Go.Proofs
attribute [local irreducible] aft blk lpK retK AW SpecO
set_option linter.unusedVariables false
set_option linter.unusedSimpArgs false
set_option maxRecDepth 100000
def ac_laws_FnExactCovered : ACode := .seq (.reg false [⟨some 2, .box 1 (.t 0), none⟩, ⟨some 4, .mov (.k (.v false [.c (.b false)])), none⟩]) (.seq (.reg false [⟨some 5, .mov (.k (.v false [.c (.i
  .i64 1048576)])), none⟩]) (.seq (.reg false [⟨some 10, .ld true 1 (.t 2), none⟩, ⟨some 11, .mov (.t 5), none⟩, ⟨some 12, .call 46 [.t 10, .t 11], none⟩, ⟨some
  5, .mov (.t 12), none⟩]) (.seq (.seq (.reg false [⟨some 13, .mov (.t 5), none⟩, ⟨some 14, .bin .lss (.t 13) (.k (.v false [.c (.i .i64 0)])), none⟩]) (.cond
  (.t 14) (.seq (.reg false [⟨some 4, .mov (.k (.v false [.c (.b true)])), none⟩]) .ret) .skip)) (.seq (.reg false [⟨some 15, .mov (.t 1), none⟩, ⟨some 16, .mov
  (.t 5), none⟩, ⟨some 17, .call 47 [.t 15, .t 16], none⟩, ⟨some 5, .mov (.t 17), none⟩]) (.seq (.seq (.reg false [⟨some 18, .mov (.t 5), none⟩, ⟨some 19, .bin
  .lss (.t 18) (.k (.v false [.c (.i .i64 0)])), none⟩]) (.cond (.t 19) (.seq (.reg false [⟨some 4, .mov (.k (.v false [.c (.b true)])), none⟩]) .ret) .skip))
  (.seq (.reg false [⟨some 20, .ld true 1 (.t 2), none⟩, ⟨some 21, .call 49 [.t 20], none⟩, ⟨some 22, .mov (.t 1), none⟩, ⟨some 23, .call 50 [.t 22], none⟩,
  ⟨some 24, .call 48 [.t 21, .t 23], none⟩, ⟨some 6, .mov (.t 24), none⟩]) (.seq (.reg false [⟨some 25, .ld true 1 (.t 2), none⟩, ⟨some 26, .call 49 [.t 25],
  none⟩, ⟨some 7, .alloc [.sl [.s [], .i .i64 0, .sl false [.sl false [.i .i64 0, .s []] []] []]], none⟩, ⟨none, .st 1 (.t 7) (.t 26), none⟩]) (.seq (.reg false
  [⟨some 27, .mov (.t 1), none⟩, ⟨some 28, .call 50 [.t 27], none⟩, ⟨some 8, .mov (.t 28), none⟩]) (.seq (.reg false [⟨some 29, .ld true 1 (.t 7), none⟩, ⟨some
  30, .mov (.t 8), none⟩, ⟨some 31, .call 51 [.t 29, .t 30], none⟩, ⟨some 9, .mov (.t 31), none⟩]) (.seq (.seq (.reg false [⟨some 32, .mov (.t 9), none⟩, ⟨some
  33, .mov (.t 6), none⟩, ⟨some 34, .binb .neq (.t 32) (.t 33), none⟩]) (.cond (.t 34) (.seq (.reg false [⟨some 4, .mov (.k (.v false [.c (.b false)])), none⟩])
  .ret) .skip)) (.seq (.seq (.reg true [⟨some 35, .ld true 1 (.t 7), none⟩, ⟨some 36, .ld true 1 (.t 2), none⟩, ⟨some 37, .call 49 [.t 36], none⟩, ⟨some 38,
  .call 52 [.t 35, .t 37], none⟩, ⟨some 39, .not (.t 38), none⟩]) (.cond (.t 39) (.seq (.reg false [⟨some 4, .mov (.k (.v false [.c (.b false)])), none⟩]) .ret)
  .skip)) (.seq (.seq (.reg false [⟨some 40, .mov (.t 8), none⟩, ⟨some 41, .mov (.t 1), none⟩, ⟨some 42, .call 50 [.t 41], none⟩, ⟨some 43, .call 53 [.t 40, .t
  42], none⟩, ⟨some 44, .not (.t 43), none⟩]) (.cond (.t 44) (.seq (.reg false [⟨some 4, .mov (.k (.v false [.c (.b false)])), none⟩]) .ret) .skip)) (.seq (.reg
  false [⟨some 4, .mov (.k (.v false [.c (.b true)])), none⟩]) .ret)))))))))))))
theorem hc_laws_FnExactCovered : Try.f7.body.bind (comp Try.prog Try.f7.ntmps) = some ac_laws_FnExactCovered := by kernel_rfl
theorem k_laws_FnExactCovered (v : GStore) (l : List GStep) : SpecO Try.prog 7 [(true, [.sl false [.s [], .i .i64 0, .sl false [.sl false [.i .i64 0, .s []] []] []] (v.Rels.map (GNamed.cells false false))]), (false, [.sl false [.s [], .sl false [.i .i64 0, .s []] [], .i .i64 0, .sl false [.s [], .i .i64 0, .s []] []] (l.map (GStep.cells false false))])] [] (.one (false, [.b true])) := by
  refine spec_of2 false false none Try.func7 hc_laws_FnExactCovered (rvs := [.t 4]) (hΓ := mkCtx_ok (deep := false) (l := [(46, [], c_laws_szStore), (47, [], c_laws_szStepS), (49, [], c_laws_toStore), (50, [], c_laws_toStepS), (48, [], c_spec_Covered), (51, [], c_impl_Covered), (52, [], c_laws_eqStore), (53, [], c_laws_eqStepS)]) ⟨c_laws_szStore_ok, c_laws_szStepS_ok, c_laws_toStore_ok, c_laws_toStepS_ok, c_spec_Covered_ok, c_impl_Covered_ok, c_laws_eqStore_ok, c_laws_eqStepS_ok, trivial⟩) (h := ?_)
  intro hb hE
  simp only [go_sem] at hb
  unfold ac_laws_FnExactCovered
  (first | refine AX_AW ?_ | skip); simp only [go_sem, reduceIte, reduceCtorEq, Nat.reduceEqDiff, Int.reduceToNat, Nat.reduceAdd, Nat.reduceLeDiff, Nat.reduceMul, Nat.reduceSub, Nat.reduceMod, Nat.reduceDiv, Nat.reduceLT, Nat.reduceBEq, List.reduceReplicate, ← and_assoc]; (repeat' first | apply CJ.mk | intro hc); all_goals try ((repeat' first | apply And.intro | intro hs) <;> (try simp only [go_sem, Bool.and_eq_false_iff] at hs) <;> omega)
  all_goals (first | exact (hc trivial).elim | (exfalso; simp at hc; done) | ((try simp only [szR] at *) <;> omega) | trace_state)
noncomputable def c_laws_FnExactCovered : List V → Option (Prop × List (Nat × V) × R) := famCt (α := GStore × (List GStep)) (fun x => [(true, [.sl false [.s [], .i .i64 0, .sl false [.sl false [.i .i64 0, .s []] []] []] (x.1.Rels.map (GNamed.cells false false))]), (false, [.sl false [.s [], .sl false [.i .i64 0, .s []] [], .i .i64 0, .sl false [.s [], .i .i64 0, .s []] []] (x.2.map (GStep.cells false false))])]) (fun x => True) (fun x => []) (fun x => .one (false, [.b true]))
@[go_sem] theorem c_laws_FnExactCovered_eq (v_Rels : List GNamed) (l : List GStep) : c_laws_FnExactCovered [(true, [.sl false [.s [], .i .i64 0, .sl false [.sl false [.i .i64 0, .s []] []] []] (v_Rels.map (GNamed.cells false false))]), (false, [.sl false [.s [], .sl false [.i .i64 0, .s []] [], .i .i64 0, .sl false [.s [], .i .i64 0, .s []] []] (l.map (GStep.cells false false))])] = some (True, [], .one (false, [.b true])) := famCt_eq (by rintro ⟨⟨_⟩, _⟩ ⟨⟨_⟩, _⟩ h; simp only [List.cons.injEq, Prod.mk.injEq, C.i.injEq, C.s.injEq, C.b.injEq, C.sl.injEq, C.p.injEq, C.mp.injEq, C.f.injEq, true_and, and_true, GNamed_map_inj, GStep_map_inj] at h; simp_all) ((GStore.mk v_Rels), l)
theorem c_laws_FnExactCovered_ok : ∀ vs q o r, c_laws_FnExactCovered vs = some (q, o, r) → q → SpecO Try.prog 7 vs o r := famCt_ok (fun x h => k_laws_FnExactCovered x.1 x.2)
end Go.Aw
