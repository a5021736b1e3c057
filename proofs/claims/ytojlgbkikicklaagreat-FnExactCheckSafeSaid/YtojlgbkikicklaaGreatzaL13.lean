/- The law of checked rules. No condition. -/
import Derived.Test.YtojlgbkikicklaaGreatzaT9
import Derived.Test.YtojlgbkikicklaaGreatzaB3
namespace Go.Aw
open Go.Proofs
attribute [local irreducible] aft blk lpK retK AW SpecO
set_option linter.unusedVariables false
set_option linter.unusedSimpArgs false
set_option maxRecDepth 100000
def ac_laws_FnExactCheckSafe : ACode := .seq (.reg false [⟨some 1, .box 2 (.t 0), none⟩, ⟨some 2, .mov (.k (.v false [.c (.b false)])), none⟩]) (.seq (.reg false [⟨some 3, .mov (.k (.v false [.c (.i
  .i64 1048576)])), none⟩]) (.seq (.reg false [⟨some 7, .ld true 2 (.t 1), none⟩, ⟨some 8, .mov (.t 3), none⟩, ⟨some 9, .call 13 [.t 7, .t 8], none⟩, ⟨some 3,
  .mov (.t 9), none⟩]) (.seq (.seq (.reg false [⟨some 10, .mov (.t 3), none⟩, ⟨some 11, .bin .lss (.t 10) (.k (.v false [.c (.i .i64 0)])), none⟩]) (.cond (.t
  11) (.seq (.reg false [⟨some 2, .mov (.k (.v false [.c (.b true)])), none⟩]) .ret) .skip)) (.seq (.reg false [⟨some 12, .ld true 2 (.t 1), none⟩, ⟨some 13,
  .call 15 [.t 12], none⟩, ⟨some 14, .call 18 [.t 13], none⟩, ⟨some 4, .mov (.t 14), none⟩]) (.seq (.reg false [⟨some 15, .ld true 2 (.t 1), none⟩, ⟨some 16,
  .call 15 [.t 15], none⟩, ⟨some 5, .alloc [.sl [.i .i64 0, .s [], .i .i64 0], .sl [.i .i64 0, .s [], .sl false [.s [], .i .i64 0, .s []] [], .sl false [.i .i64
  0, .s [], .sl false [.s [], .i .i64 0, .s []] [], .i .i64 0, .s [], .i .i64 0, .s [], .s [], .i .i64 0, .s []] []]], none⟩, ⟨none, .st 2 (.t 5) (.t 16),
  none⟩]) (.seq (.reg false [⟨some 17, .ld true 2 (.t 5), none⟩, ⟨some 18, .call 19 [.t 17], none⟩, ⟨some 6, .mov (.t 18), none⟩]) (.seq (.seq (.reg false
  [⟨some 19, .mov (.t 6), none⟩, ⟨some 20, .mov (.t 4), none⟩, ⟨some 21, .bin .neq (.t 19) (.t 20), none⟩]) (.cond (.t 21) (.seq (.reg false [⟨some 2, .mov (.k
  (.v false [.c (.b false)])), none⟩]) .ret) .skip)) (.seq (.seq (.reg true [⟨some 22, .ld true 2 (.t 5), none⟩, ⟨some 23, .ld true 2 (.t 1), none⟩, ⟨some 24,
  .call 15 [.t 23], none⟩, ⟨some 25, .call 17 [.t 22, .t 24], none⟩, ⟨some 26, .not (.t 25), none⟩]) (.cond (.t 26) (.seq (.reg false [⟨some 2, .mov (.k (.v
  false [.c (.b false)])), none⟩]) .ret) .skip)) (.seq (.reg false [⟨some 2, .mov (.k (.v false [.c (.b true)])), none⟩]) .ret)))))))))
theorem hc_laws_FnExactCheckSafe : Tryz.f4.body.bind (comp Tryz.prog Tryz.f4.ntmps) = some ac_laws_FnExactCheckSafe := by kernel_rfl
theorem k_laws_FnExactCheckSafe (p : GProgram) : SpecO Tryz.prog 4 [(true, [.sl false [.i .i64 0, .s [], .i .i64 0] (p.Decls.map GDecl.cells), .sl false [.i .i64 0, .s [], .sl false [.s [], .i .i64 0, .s []] [], .sl false [.i .i64 0, .s [], .sl false [.s [], .i .i64 0, .s []] [], .i .i64 0, .s [], .i .i64 0, .s [], .s [], .i .i64 0, .s []] []] (p.Rules.map (GRule.cells false false))])] [] (.one (false, [.b true])) := by
  refine spec_of2 false false none Tryz.func4 hc_laws_FnExactCheckSafe (rvs := [.t 2]) (hΓ := mkCtx_ok (deep := false) (l := [(13, [], c_laws_szProgram), (15, [], c_laws_toProgram), (18, [], c_spec_CheckSafe), (19, [], c_impl_CheckSafe), (17, [], c_laws_eqProgram)]) ⟨c_laws_szProgram_ok, c_laws_toProgram_ok, c_spec_CheckSafe_ok, c_impl_CheckSafe_ok, c_laws_eqProgram_ok, trivial⟩) (h := ?_)
  intro hb hE
  simp only [go_sem] at hb
  unfold ac_laws_FnExactCheckSafe
  (first | refine AX_AW ?_ | skip); simp only [go_sem, reduceIte, reduceCtorEq, Nat.reduceEqDiff, Int.reduceToNat, Nat.reduceAdd, Nat.reduceLeDiff, Nat.reduceMul, Nat.reduceSub, Nat.reduceMod, Nat.reduceDiv, Nat.reduceLT, Nat.reduceBEq, List.reduceReplicate, ← and_assoc]; (repeat' first | apply CJ.mk | intro hc); all_goals try ((repeat' first | apply And.intro | intro hs) <;> (try simp only [go_sem, Bool.and_eq_false_iff] at hs) <;> omega)
  all_goals (first | exact (hc trivial).elim | (exfalso; simp at hc; done) | ((try simp only [szR] at *) <;> omega) | trace_state)
noncomputable def c_laws_FnExactCheckSafe : List V → Option (Prop × List (Nat × V) × R) := famCt (α := GProgram) (fun x => [(true, [.sl false [.i .i64 0, .s [], .i .i64 0] (x.Decls.map GDecl.cells), .sl false [.i .i64 0, .s [], .sl false [.s [], .i .i64 0, .s []] [], .sl false [.i .i64 0, .s [], .sl false [.s [], .i .i64 0, .s []] [], .i .i64 0, .s [], .i .i64 0, .s [], .s [], .i .i64 0, .s []] []] (x.Rules.map (GRule.cells false false))])]) (fun x => True) (fun x => []) (fun x => .one (false, [.b true]))
@[go_sem] theorem c_laws_FnExactCheckSafe_eq (p_Decls : List GDecl) (p_Rules : List GRule) : c_laws_FnExactCheckSafe [(true, [.sl false [.i .i64 0, .s [], .i .i64 0] (p_Decls.map GDecl.cells), .sl false [.i .i64 0, .s [], .sl false [.s [], .i .i64 0, .s []] [], .sl false [.i .i64 0, .s [], .sl false [.s [], .i .i64 0, .s []] [], .i .i64 0, .s [], .i .i64 0, .s [], .s [], .i .i64 0, .s []] []] (p_Rules.map (GRule.cells false false))])] = some (True, [], .one (false, [.b true])) := famCt_eq (by rintro ⟨_, _⟩ ⟨_, _⟩ h; simp only [List.cons.injEq, Prod.mk.injEq, C.i.injEq, C.s.injEq, C.b.injEq, C.sl.injEq, C.p.injEq, C.mp.injEq, C.f.injEq, true_and, and_true, GDecl_map_inj, GRule_map_inj] at h; simp_all) (GProgram.mk p_Decls p_Rules)
theorem c_laws_FnExactCheckSafe_ok : ∀ vs q o r, c_laws_FnExactCheckSafe vs = some (q, o, r) → q → SpecO Tryz.prog 4 vs o r := famCt_ok (fun x h => k_laws_FnExactCheckSafe x)
end Go.Aw
