/- The law of plain rules. No condition. -/
import Derived.Test.YtojlgbkikicklaaecT4
import Derived.Test.YtojlgbkikicklaaecB3
namespace Go.Aw
open Go.Proofs
attribute [local irreducible] aft blk lpK retK AW SpecO
set_option linter.unusedVariables false
set_option linter.unusedSimpArgs false
set_option maxRecDepth 100000
def ac_laws_FnExactPlainRule : ACode := .seq (.reg false [⟨some 1, .box 4 (.t 0), none⟩, ⟨some 2, .mov (.k (.v false [.c (.b false)])), none⟩]) (.seq (.reg false [⟨some 3, .mov (.k (.v false [.c (.i
  .i64 1048576)])), none⟩]) (.seq (.reg false [⟨some 7, .ld true 4 (.t 1), none⟩, ⟨some 8, .mov (.t 3), none⟩, ⟨some 9, .call 56 [.t 7, .t 8], none⟩, ⟨some 3,
  .mov (.t 9), none⟩]) (.seq (.seq (.reg false [⟨some 10, .mov (.t 3), none⟩, ⟨some 11, .bin .lss (.t 10) (.k (.v false [.c (.i .i64 0)])), none⟩]) (.cond (.t
  11) (.seq (.reg false [⟨some 2, .mov (.k (.v false [.c (.b true)])), none⟩]) .ret) .skip)) (.seq (.reg false [⟨some 12, .ld true 4 (.t 1), none⟩, ⟨some 13,
  .call 58 [.t 12], none⟩, ⟨some 14, .call 57 [.t 13], none⟩, ⟨some 4, .mov (.t 14), none⟩]) (.seq (.reg false [⟨some 15, .ld true 4 (.t 1), none⟩, ⟨some 16,
  .call 58 [.t 15], none⟩, ⟨some 5, .alloc [.i .i64, .s, .sl [.s [], .i .i64 0, .s []], .sl [.i .i64 0, .s [], .sl false [.s [], .i .i64 0, .s []] [], .i .i64
  0, .s [], .i .i64 0, .s [], .s [], .i .i64 0, .s []]], none⟩, ⟨none, .st 4 (.t 5) (.t 16), none⟩]) (.seq (.reg false [⟨some 17, .ld true 4 (.t 5), none⟩,
  ⟨some 18, .call 59 [.t 17], none⟩, ⟨some 6, .mov (.t 18), none⟩]) (.seq (.seq (.reg false [⟨some 19, .mov (.t 6), none⟩, ⟨some 20, .mov (.t 4), none⟩, ⟨some
  21, .binb .neq (.t 19) (.t 20), none⟩]) (.cond (.t 21) (.seq (.reg false [⟨some 2, .mov (.k (.v false [.c (.b false)])), none⟩]) .ret) .skip)) (.seq (.seq
  (.reg true [⟨some 22, .ld true 4 (.t 5), none⟩, ⟨some 23, .ld true 4 (.t 1), none⟩, ⟨some 24, .call 58 [.t 23], none⟩, ⟨some 25, .call 60 [.t 22, .t 24],
  none⟩, ⟨some 26, .not (.t 25), none⟩]) (.cond (.t 26) (.seq (.reg false [⟨some 2, .mov (.k (.v false [.c (.b false)])), none⟩]) .ret) .skip)) (.seq (.reg
  false [⟨some 2, .mov (.k (.v false [.c (.b true)])), none⟩]) .ret)))))))))
theorem hc_laws_FnExactPlainRule : Try.f9.body.bind (comp Try.prog Try.f9.ntmps) = some ac_laws_FnExactPlainRule := by kernel_rfl
theorem k_laws_FnExactPlainRule (r : GRule) : SpecO Try.prog 9 [(true, [.i .i64 r.Kind, .s r.Head.Name, .sl false [.s [], .i .i64 0, .s []] (r.Head.Args.map GTerm.cells), .sl false [.i .i64 0, .s [], .sl false [.s [], .i .i64 0, .s []] [], .i .i64 0, .s [], .i .i64 0, .s [], .s [], .i .i64 0, .s []] (r.Body.map (GLit.cells false false))])] [] (.one (false, [.b true])) := by
  refine spec_of2 false false none Try.func9 hc_laws_FnExactPlainRule (rvs := [.t 2]) (hΓ := mkCtx_ok (deep := false) (l := [(56, [], c_laws_szRule), (58, [], c_laws_toRule), (57, [], c_spec_PlainRule), (59, [], c_impl_PlainRule), (60, [], c_laws_eqRule)]) ⟨c_laws_szRule_ok, c_laws_toRule_ok, c_spec_PlainRule_ok, c_impl_PlainRule_ok, c_laws_eqRule_ok, trivial⟩) (h := ?_)
  intro hb hE
  simp only [go_sem] at hb
  unfold ac_laws_FnExactPlainRule
  (first | refine AX_AW ?_ | skip); simp only [go_sem, reduceIte, reduceCtorEq, Nat.reduceEqDiff, Int.reduceToNat, Nat.reduceAdd, Nat.reduceLeDiff, Nat.reduceMul, Nat.reduceSub, Nat.reduceMod, Nat.reduceDiv, Nat.reduceLT, Nat.reduceBEq, List.reduceReplicate, ← and_assoc]; (repeat' first | apply CJ.mk | intro hc); all_goals try ((repeat' first | apply And.intro | intro hs) <;> (try simp only [go_sem, Bool.and_eq_false_iff] at hs) <;> omega)
  all_goals (first | exact (hc trivial).elim | (exfalso; simp at hc; done) | ((try simp only [szR] at *) <;> omega) | trace_state)
noncomputable def c_laws_FnExactPlainRule : List V → Option (Prop × List (Nat × V) × R) := famCt (α := GRule) (fun x => [(true, [.i .i64 x.Kind, .s x.Head.Name, .sl false [.s [], .i .i64 0, .s []] (x.Head.Args.map GTerm.cells), .sl false [.i .i64 0, .s [], .sl false [.s [], .i .i64 0, .s []] [], .i .i64 0, .s [], .i .i64 0, .s [], .s [], .i .i64 0, .s []] (x.Body.map (GLit.cells false false))])]) (fun x => True) (fun x => []) (fun x => .one (false, [.b true]))
@[go_sem] theorem c_laws_FnExactPlainRule_eq (r_Kind : Int) (r_Head_Name : List UInt8) (r_Head_Args : List GTerm) (r_Body : List GLit) : c_laws_FnExactPlainRule [(true, [.i .i64 r_Kind, .s r_Head_Name, .sl false [.s [], .i .i64 0, .s []] (r_Head_Args.map GTerm.cells), .sl false [.i .i64 0, .s [], .sl false [.s [], .i .i64 0, .s []] [], .i .i64 0, .s [], .i .i64 0, .s [], .s [], .i .i64 0, .s []] (r_Body.map (GLit.cells false false))])] = some (True, [], .one (false, [.b true])) := famCt_eq (by rintro ⟨_, ⟨_, _⟩, _⟩ ⟨_, ⟨_, _⟩, _⟩ h; simp only [List.cons.injEq, Prod.mk.injEq, C.i.injEq, C.s.injEq, C.b.injEq, C.sl.injEq, C.p.injEq, C.mp.injEq, C.f.injEq, true_and, and_true, GLit_map_inj, GTerm_map_inj] at h; simp_all) (GRule.mk r_Kind (GAtom.mk r_Head_Name r_Head_Args) r_Body)
theorem c_laws_FnExactPlainRule_ok : ∀ vs q o r, c_laws_FnExactPlainRule vs = some (q, o, r) → q → SpecO Try.prog 9 vs o r := famCt_ok (fun x h => k_laws_FnExactPlainRule x)
end Go.Aw
