/- The law of names. No condition. -/
import Derived.Test.YtojlgbkikicklaaebT2
import Derived.Test.YtojlgbkikicklaaebB3
namespace Go.Aw
open Go.Proofs
attribute [local irreducible] aft blk lpK retK AW SpecO
set_option linter.unusedVariables false
set_option linter.unusedSimpArgs false
set_option maxRecDepth 100000
def ac_laws_FnExactCheckNames : ACode := .seq (.reg false [⟨some 1, .box 2 (.t 0), none⟩, ⟨some 2, .mov (.k (.v false [.c (.b false)])), none⟩]) (.seq (.reg false [⟨some 3, .mov (.k (.v false [.c (.i
  .i64 1048576)])), none⟩]) (.seq (.reg false [⟨some 9, .ld true 2 (.t 1), none⟩, ⟨some 10, .mov (.t 3), none⟩, ⟨some 11, .call 21 [.t 9, .t 10], none⟩, ⟨some
  3, .mov (.t 11), none⟩]) (.seq (.seq (.reg false [⟨some 12, .mov (.t 3), none⟩, ⟨some 13, .bin .lss (.t 12) (.k (.v false [.c (.i .i64 0)])), none⟩]) (.cond
  (.t 13) (.seq (.reg false [⟨some 2, .mov (.k (.v false [.c (.b true)])), none⟩]) .ret) .skip)) (.seq (.reg false [⟨some 15, .ld true 2 (.t 1), none⟩, ⟨some
  16, .call 23 [.t 15], none⟩, ⟨some 17, .call 54 [.t 16], none⟩, ⟨some 14, .mov (.t 17), none⟩, ⟨some 18, .ext (.t 14) 0, none⟩, ⟨some 19, .ext (.t 14) 1,
  none⟩, ⟨some 4, .mov (.t 18), none⟩, ⟨some 5, .mov (.t 19), none⟩]) (.seq (.reg false [⟨some 20, .ld true 2 (.t 1), none⟩, ⟨some 21, .call 23 [.t 20], none⟩,
  ⟨some 6, .alloc [.sl [.i .i64 0, .s [], .i .i64 0], .sl [.i .i64 0, .s [], .sl false [.s [], .i .i64 0, .s []] [], .sl false [.i .i64 0, .s [], .sl false [.s
  [], .i .i64 0, .s []] [], .i .i64 0, .s [], .i .i64 0, .s [], .s [], .i .i64 0, .s []] []]], none⟩, ⟨none, .st 2 (.t 6) (.t 21), none⟩]) (.seq (.reg false
  [⟨some 23, .ld true 2 (.t 6), none⟩, ⟨some 24, .call 55 [.t 23], none⟩, ⟨some 22, .mov (.t 24), none⟩, ⟨some 25, .ext (.t 22) 0, none⟩, ⟨some 26, .ext (.t 22)
  1, none⟩, ⟨some 7, .mov (.t 25), none⟩, ⟨some 8, .mov (.t 26), none⟩]) (.seq (.seq (.reg false [⟨some 27, .mov (.t 7), none⟩, ⟨some 28, .mov (.t 4), none⟩,
  ⟨some 29, .bin .neq (.t 27) (.t 28), none⟩, ⟨some 30, .mov (.t 29), none⟩, ⟨some 31, .mov (.t 8), some (30, false)⟩, ⟨some 32, .mov (.t 5), some (30, false)⟩,
  ⟨some 33, .bin .neq (.t 31) (.t 32), some (30, false)⟩, ⟨some 34, .pick (.t 30) (.k (.v false [.c (.b true)])) (.t 33), none⟩]) (.cond (.t 34) (.seq (.reg
  false [⟨some 2, .mov (.k (.v false [.c (.b false)])), none⟩]) .ret) .skip)) (.seq (.seq (.reg true [⟨some 35, .ld true 2 (.t 6), none⟩, ⟨some 36, .ld true 2
  (.t 1), none⟩, ⟨some 37, .call 23 [.t 36], none⟩, ⟨some 38, .call 26 [.t 35, .t 37], none⟩, ⟨some 39, .not (.t 38), none⟩]) (.cond (.t 39) (.seq (.reg false
  [⟨some 2, .mov (.k (.v false [.c (.b false)])), none⟩]) .ret) .skip)) (.seq (.reg false [⟨some 2, .mov (.k (.v false [.c (.b true)])), none⟩]) .ret)))))))))
theorem hc_laws_FnExactCheckNames : Try.f8.body.bind (comp Try.prog Try.f8.ntmps) = some ac_laws_FnExactCheckNames := by kernel_rfl
theorem k_laws_FnExactCheckNames (p : GProgram) : SpecO Try.prog 8 [(true, [.sl false [.i .i64 0, .s [], .i .i64 0] (p.Decls.map GDecl.cells), .sl false [.i .i64 0, .s [], .sl false [.s [], .i .i64 0, .s []] [], .sl false [.i .i64 0, .s [], .sl false [.s [], .i .i64 0, .s []] [], .i .i64 0, .s [], .i .i64 0, .s [], .s [], .i .i64 0, .s []] []] (p.Rules.map (GRule.cells false false))])] [] (.one (false, [.b true])) := by
  refine spec_of2 false false none Try.func8 hc_laws_FnExactCheckNames (rvs := [.t 2]) (hΓ := mkCtx_ok (deep := false) (l := [(21, [], c_laws_szProgram), (23, [], c_laws_toProgram), (54, [], c_spec_CheckNames), (55, [], c_impl_CheckNames), (26, [], c_laws_eqProgram)]) ⟨c_laws_szProgram_ok, c_laws_toProgram_ok, c_spec_CheckNames_ok, c_impl_CheckNames_ok, c_laws_eqProgram_ok, trivial⟩) (h := ?_)
  intro hb hE
  simp only [go_sem] at hb
  unfold ac_laws_FnExactCheckNames
  (first | refine AX_AW ?_ | skip); simp only [go_sem, reduceIte, reduceCtorEq, Nat.reduceEqDiff, Int.reduceToNat, Nat.reduceAdd, Nat.reduceLeDiff, Nat.reduceMul, Nat.reduceSub, Nat.reduceMod, Nat.reduceDiv, Nat.reduceLT, Nat.reduceBEq, List.reduceReplicate, ← and_assoc]; (repeat' first | apply CJ.mk | intro hc); all_goals try ((repeat' first | apply And.intro | intro hs) <;> (try simp only [go_sem, Bool.and_eq_false_iff] at hs) <;> omega)
  all_goals (first | exact (hc trivial).elim | (exfalso; simp at hc; done) | ((try simp only [szR] at *) <;> omega) | trace_state)
noncomputable def c_laws_FnExactCheckNames : List V → Option (Prop × List (Nat × V) × R) := famCt (α := GProgram) (fun x => [(true, [.sl false [.i .i64 0, .s [], .i .i64 0] (x.Decls.map GDecl.cells), .sl false [.i .i64 0, .s [], .sl false [.s [], .i .i64 0, .s []] [], .sl false [.i .i64 0, .s [], .sl false [.s [], .i .i64 0, .s []] [], .i .i64 0, .s [], .i .i64 0, .s [], .s [], .i .i64 0, .s []] []] (x.Rules.map (GRule.cells false false))])]) (fun x => True) (fun x => []) (fun x => .one (false, [.b true]))
@[go_sem] theorem c_laws_FnExactCheckNames_eq (p_Decls : List GDecl) (p_Rules : List GRule) : c_laws_FnExactCheckNames [(true, [.sl false [.i .i64 0, .s [], .i .i64 0] (p_Decls.map GDecl.cells), .sl false [.i .i64 0, .s [], .sl false [.s [], .i .i64 0, .s []] [], .sl false [.i .i64 0, .s [], .sl false [.s [], .i .i64 0, .s []] [], .i .i64 0, .s [], .i .i64 0, .s [], .s [], .i .i64 0, .s []] []] (p_Rules.map (GRule.cells false false))])] = some (True, [], .one (false, [.b true])) := famCt_eq (by rintro ⟨_, _⟩ ⟨_, _⟩ h; simp only [List.cons.injEq, Prod.mk.injEq, C.i.injEq, C.s.injEq, C.b.injEq, C.sl.injEq, C.p.injEq, C.mp.injEq, C.f.injEq, true_and, and_true, GDecl_map_inj, GRule_map_inj] at h; simp_all) (GProgram.mk p_Decls p_Rules)
theorem c_laws_FnExactCheckNames_ok : ∀ vs q o r, c_laws_FnExactCheckNames vs = some (q, o, r) → q → SpecO Try.prog 8 vs o r := famCt_ok (fun x h => k_laws_FnExactCheckNames x)
end Go.Aw
