/- The law of declarations. No condition. -/
import Derived.Test.YtojlgbkikicklaaeaG8
import Derived.Test.YtojlgbkikicklaaeaB3
namespace Go.Aw
open Go.Proofs
attribute [local irreducible] aft blk lpK retK AW SpecO
set_option linter.unusedVariables false
set_option linter.unusedSimpArgs false
set_option maxRecDepth 100000
def ac_laws_FnExactDeclOf : ACode := .seq (.reg false [⟨some 2, .box 2 (.t 0), none⟩, ⟨some 4, .mov (.k (.v false [.c (.b false)])), none⟩]) (.seq (.seq (.reg false [⟨some 11, .mov (.t 1), none⟩,
  ⟨some 12, .lens (.t 11), none⟩, ⟨some 13, .bin .gtr (.t 12) (.k (.v false [.c (.i .i64 1048576)])), none⟩]) (.cond (.t 13) (.seq (.reg false [⟨some 4, .mov
  (.k (.v false [.c (.b true)])), none⟩]) .ret) .skip)) (.seq (.reg false [⟨some 5, .mov (.k (.v false [.c (.i .i64 1048576)])), none⟩]) (.seq (.reg false
  [⟨some 14, .ld true 2 (.t 2), none⟩, ⟨some 15, .mov (.t 5), none⟩, ⟨some 16, .call 21 [.t 14, .t 15], none⟩, ⟨some 5, .mov (.t 16), none⟩]) (.seq (.seq (.reg
  false [⟨some 17, .mov (.t 5), none⟩, ⟨some 18, .bin .lss (.t 17) (.k (.v false [.c (.i .i64 0)])), none⟩]) (.cond (.t 18) (.seq (.reg false [⟨some 4, .mov (.k
  (.v false [.c (.b true)])), none⟩]) .ret) .skip)) (.seq (.reg false [⟨some 20, .ld true 2 (.t 2), none⟩, ⟨some 21, .call 23 [.t 20], none⟩, ⟨some 22, .mov (.t
  1), none⟩, ⟨some 23, .call 22 [.t 21, .t 22], none⟩, ⟨some 19, .mov (.t 23), none⟩, ⟨some 24, .ext (.t 19) 0, none⟩, ⟨some 25, .ext (.t 19) 1, none⟩, ⟨some 6,
  .alloc [.i .i64, .s, .i .i64], none⟩, ⟨none, .st 3 (.t 6) (.t 24), none⟩, ⟨some 7, .mov (.t 25), none⟩]) (.seq (.reg false [⟨some 26, .ld true 2 (.t 2),
  none⟩, ⟨some 27, .call 23 [.t 26], none⟩, ⟨some 8, .alloc [.sl [.i .i64 0, .s [], .i .i64 0], .sl [.i .i64 0, .s [], .sl false [.s [], .i .i64 0, .s []] [],
  .sl false [.i .i64 0, .s [], .sl false [.s [], .i .i64 0, .s []] [], .i .i64 0, .s [], .i .i64 0, .s [], .s [], .i .i64 0, .s []] []]], none⟩, ⟨none, .st 2
  (.t 8) (.t 27), none⟩]) (.seq (.reg false [⟨some 29, .ld true 2 (.t 8), none⟩, ⟨some 30, .mov (.t 1), none⟩, ⟨some 31, .call 24 [.t 29, .t 30], none⟩, ⟨some
  28, .mov (.t 31), none⟩, ⟨some 32, .ext (.t 28) 0, none⟩, ⟨some 33, .ext (.t 28) 1, none⟩, ⟨some 9, .alloc [.i .i64, .s, .i .i64], none⟩, ⟨none, .st 3 (.t 9)
  (.t 32), none⟩, ⟨some 10, .mov (.t 33), none⟩]) (.seq (.seq (.reg false [⟨some 34, .ld true 3 (.t 9), none⟩, ⟨some 35, .ld true 3 (.t 6), none⟩, ⟨some 36,
  .call 25 [.t 34, .t 35], none⟩, ⟨some 37, .not (.t 36), none⟩, ⟨some 38, .mov (.t 37), none⟩, ⟨some 39, .mov (.t 10), some (38, false)⟩, ⟨some 40, .mov (.t
  7), some (38, false)⟩, ⟨some 41, .binb .neq (.t 39) (.t 40), some (38, false)⟩, ⟨some 42, .pick (.t 38) (.k (.v false [.c (.b true)])) (.t 41), none⟩]) (.cond
  (.t 42) (.seq (.reg false [⟨some 4, .mov (.k (.v false [.c (.b false)])), none⟩]) .ret) .skip)) (.seq (.seq (.reg true [⟨some 43, .ld true 2 (.t 8), none⟩,
  ⟨some 44, .ld true 2 (.t 2), none⟩, ⟨some 45, .call 23 [.t 44], none⟩, ⟨some 46, .call 26 [.t 43, .t 45], none⟩, ⟨some 47, .not (.t 46), none⟩]) (.cond (.t
  47) (.seq (.reg false [⟨some 4, .mov (.k (.v false [.c (.b false)])), none⟩]) .ret) .skip)) (.seq (.reg false [⟨some 4, .mov (.k (.v false [.c (.b true)])),
  none⟩]) .ret))))))))))
theorem hc_laws_FnExactDeclOf : Try.f4.body.bind (comp Try.prog Try.f4.ntmps) = some ac_laws_FnExactDeclOf := by kernel_rfl
theorem k_laws_FnExactDeclOf (p : GProgram) (name : List UInt8) : SpecO Try.prog 4 [(true, [.sl false [.i .i64 0, .s [], .i .i64 0] (p.Decls.map GDecl.cells), .sl false [.i .i64 0, .s [], .sl false [.s [], .i .i64 0, .s []] [], .sl false [.i .i64 0, .s [], .sl false [.s [], .i .i64 0, .s []] [], .i .i64 0, .s [], .i .i64 0, .s [], .s [], .i .i64 0, .s []] []] (p.Rules.map (GRule.cells false false))]), (false, [.s name])] [] (.one (false, [.b true])) := by
  refine spec_of2 false false none Try.func4 hc_laws_FnExactDeclOf (rvs := [.t 4]) (hΓ := mkCtx_ok (deep := false) (l := [(21, [], c_laws_szProgram), (23, [], c_laws_toProgram), (22, [], c_spec_DeclOf), (24, [], c_impl_DeclOf), (26, [], c_laws_eqProgram), (25, [], c_laws_eqDecl)]) ⟨c_laws_szProgram_ok, c_laws_toProgram_ok, c_spec_DeclOf_ok, c_impl_DeclOf_ok, c_laws_eqProgram_ok, c_laws_eqDecl_ok, trivial⟩) (h := ?_)
  intro hb hE
  simp only [go_sem] at hb
  unfold ac_laws_FnExactDeclOf
  (first | refine AX_AW ?_ | skip); simp only [go_sem, reduceIte, reduceCtorEq, Nat.reduceEqDiff, Int.reduceToNat, Nat.reduceAdd, Nat.reduceLeDiff, Nat.reduceMul, Nat.reduceSub, Nat.reduceMod, Nat.reduceDiv, Nat.reduceLT, Nat.reduceBEq, List.reduceReplicate, ← and_assoc]; (repeat' first | apply CJ.mk | intro hc); all_goals try ((repeat' first | apply And.intro | intro hs) <;> (try simp only [go_sem, Bool.and_eq_false_iff] at hs) <;> omega)
  all_goals (first | exact (hc trivial).elim | (exfalso; simp at hc; done) | ((try simp only [szR] at *) <;> omega) | trace_state)
noncomputable def c_laws_FnExactDeclOf : List V → Option (Prop × List (Nat × V) × R) := famCt (α := GProgram × (List UInt8)) (fun x => [(true, [.sl false [.i .i64 0, .s [], .i .i64 0] (x.1.Decls.map GDecl.cells), .sl false [.i .i64 0, .s [], .sl false [.s [], .i .i64 0, .s []] [], .sl false [.i .i64 0, .s [], .sl false [.s [], .i .i64 0, .s []] [], .i .i64 0, .s [], .i .i64 0, .s [], .s [], .i .i64 0, .s []] []] (x.1.Rules.map (GRule.cells false false))]), (false, [.s x.2])]) (fun x => True) (fun x => []) (fun x => .one (false, [.b true]))
@[go_sem] theorem c_laws_FnExactDeclOf_eq (p_Decls : List GDecl) (p_Rules : List GRule) (name : List UInt8) : c_laws_FnExactDeclOf [(true, [.sl false [.i .i64 0, .s [], .i .i64 0] (p_Decls.map GDecl.cells), .sl false [.i .i64 0, .s [], .sl false [.s [], .i .i64 0, .s []] [], .sl false [.i .i64 0, .s [], .sl false [.s [], .i .i64 0, .s []] [], .i .i64 0, .s [], .i .i64 0, .s [], .s [], .i .i64 0, .s []] []] (p_Rules.map (GRule.cells false false))]), (false, [.s name])] = some (True, [], .one (false, [.b true])) := famCt_eq (by rintro ⟨⟨_, _⟩, _⟩ ⟨⟨_, _⟩, _⟩ h; simp only [List.cons.injEq, Prod.mk.injEq, C.i.injEq, C.s.injEq, C.b.injEq, C.sl.injEq, C.p.injEq, C.mp.injEq, C.f.injEq, true_and, and_true, GDecl_map_inj, GRule_map_inj] at h; simp_all) ((GProgram.mk p_Decls p_Rules), name)
theorem c_laws_FnExactDeclOf_ok : ∀ vs q o r, c_laws_FnExactDeclOf vs = some (q, o, r) → q → SpecO Try.prog 4 vs o r := famCt_ok (fun x h => k_laws_FnExactDeclOf x.1 x.2)
end Go.Aw
