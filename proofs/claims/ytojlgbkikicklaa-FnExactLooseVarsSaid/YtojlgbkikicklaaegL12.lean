/- The law of loose variables. No condition. -/
import Derived.Test.YtojlgbkikicklaaegT8
import Derived.Test.YtojlgbkikicklaaegB3
import Derived.Test.YtojlgbkikicklaaegB5
import Derived.Test.YtojlgbkikicklaaegM3
import Derived.Test.YtojlgbkikicklaaegM4
namespace Go.Aw
open Go.Proofs
attribute [local irreducible] aft blk lpK retK AW SpecO
set_option linter.unusedVariables false
set_option linter.unusedSimpArgs false
set_option maxRecDepth 100000
theorem cntLit_bd (l : List GLit) : tots cntLit l ≤ 9 * (l.length + tots totLit l) := tots_bd cntLit totLit 9 (fun x => by simp only [cntLit, totLit, totAtom]; omega) l
set_option maxHeartbeats 2000000
def ac_laws_FnExactLooseVars : ACode := .seq (.reg false [⟨some 1, .box 4 (.t 0), none⟩, ⟨some 2, .mov (.k (.v false [.c (.b false)])), none⟩]) (.seq (.reg false [⟨some 3, .mov (.k (.v false [.c (.i
  .i64 1048576)])), none⟩]) (.seq (.reg false [⟨some 11, .ld true 4 (.t 1), none⟩, ⟨some 12, .mov (.t 3), none⟩, ⟨some 13, .call 56 [.t 11, .t 12], none⟩, ⟨some
  3, .mov (.t 13), none⟩]) (.seq (.seq (.reg false [⟨some 14, .mov (.t 3), none⟩, ⟨some 15, .bin .lss (.t 14) (.k (.v false [.c (.i .i64 0)])), none⟩]) (.cond
  (.t 15) (.seq (.reg false [⟨some 2, .mov (.k (.v false [.c (.b true)])), none⟩]) .ret) .skip)) (.seq (.reg false [⟨some 16, .ld true 4 (.t 1), none⟩, ⟨some
  17, .call 58 [.t 16], none⟩, ⟨some 18, .call 67 [.t 17], none⟩, ⟨some 4, .mov (.t 18), none⟩]) (.seq (.reg false [⟨some 19, .ld true 4 (.t 1), none⟩, ⟨some
  20, .call 58 [.t 19], none⟩, ⟨some 5, .alloc [.i .i64, .s, .sl [.s [], .i .i64 0, .s []], .sl [.i .i64 0, .s [], .sl false [.s [], .i .i64 0, .s []] [], .i
  .i64 0, .s [], .i .i64 0, .s [], .s [], .i .i64 0, .s []]], none⟩, ⟨none, .st 4 (.t 5) (.t 20), none⟩]) (.seq (.reg false [⟨some 21, .ld true 4 (.t 5), none⟩,
  ⟨some 22, .call 68 [.t 21], none⟩, ⟨some 6, .mov (.t 22), none⟩]) (.seq (.seq (.reg false [⟨some 23, .mov (.t 6), none⟩, ⟨some 24, .mov (.t 4), none⟩, ⟨some
  25, .call 63 [.t 23, .t 24], none⟩, ⟨some 26, .not (.t 25), none⟩]) (.cond (.t 26) (.seq (.reg false [⟨some 2, .mov (.k (.v false [.c (.b false)])), none⟩])
  .ret) .skip)) (.seq (.seq (.reg true [⟨some 27, .ld true 4 (.t 5), none⟩, ⟨some 28, .ld true 4 (.t 1), none⟩, ⟨some 29, .call 58 [.t 28], none⟩, ⟨some 30,
  .call 60 [.t 27, .t 29], none⟩, ⟨some 31, .not (.t 30), none⟩]) (.cond (.t 31) (.seq (.reg false [⟨some 2, .mov (.k (.v false [.c (.b false)])), none⟩]) .ret)
  .skip)) (.seq (.reg false [⟨some 7, .mov (.k (.v false [.c (.i .i64 1)])), none⟩]) (.seq (.reg false [⟨some 32, .ld true 4 (.t 5), none⟩, ⟨some 33, .mov (.t
  7), none⟩, ⟨some 34, .call 64 [.t 32, .t 33], none⟩, ⟨some 7, .mov (.t 34), none⟩]) (.seq (.seq (.reg false [⟨some 35, .mov (.t 7), none⟩, ⟨some 36, .bin .lss
  (.t 35) (.k (.v false [.c (.i .i64 0)])), none⟩, ⟨some 37, .mov (.t 36), none⟩, ⟨some 38, .mov (.t 6), some (37, false)⟩, ⟨some 39, .mov (.t 4), some (37,
  false)⟩, ⟨some 40, .call 63 [.t 38, .t 39], some (37, false)⟩, ⟨some 41, .not (.t 40), some (37, false)⟩, ⟨some 42, .pick (.t 37) (.k (.v false [.c (.b
  true)])) (.t 41), none⟩]) (.cond (.t 42) (.seq (.reg false [⟨some 2, .mov (.k (.v false [.c (.b false)])), none⟩]) .ret) .skip)) (.seq (.reg false [⟨some 8,
  .mov (.k (.v false [.c (.i .i64 1)])), none⟩]) (.seq (.reg false [⟨some 43, .mov (.t 6), none⟩, ⟨some 44, .mov (.t 8), none⟩, ⟨some 45, .call 65 [.t 43, .t
  44], none⟩, ⟨some 8, .mov (.t 45), none⟩]) (.seq (.reg false [⟨some 9, .mov (.k (.v false [.c (.i .i64 1)])), none⟩]) (.seq (.reg false [⟨some 46, .mov (.t
  6), none⟩, ⟨some 47, .mov (.t 9), none⟩, ⟨some 48, .call 66 [.t 46, .t 47], none⟩, ⟨some 9, .mov (.t 48), none⟩]) (.seq (.seq (.reg false [⟨some 49, .mov (.t
  9), none⟩, ⟨some 50, .bin .lss (.t 49) (.k (.v false [.c (.i .i64 0)])), none⟩]) (.cond (.t 50) (.seq (.reg false [⟨some 2, .mov (.k (.v false [.c (.b
  false)])), none⟩]) .ret) .skip)) (.seq (.seq (.reg false [⟨some 51, .mov (.t 9), none⟩, ⟨some 52, .mov (.t 8), none⟩, ⟨some 53, .bin .neq (.t 51) (.t 52),
  none⟩]) (.cond (.t 53) (.seq (.reg false [⟨some 2, .mov (.k (.v false [.c (.b false)])), none⟩]) .ret) .skip)) (.seq (.reg false [⟨some 54, .ld true 4 (.t 1),
  none⟩, ⟨some 55, .call 58 [.t 54], none⟩, ⟨some 56, .call 68 [.t 55], none⟩, ⟨some 10, .mov (.t 56), none⟩]) (.seq (.seq (.reg false [⟨some 57, .mov (.t 10),
  none⟩, ⟨some 58, .mov (.t 4), none⟩, ⟨some 59, .call 63 [.t 57, .t 58], none⟩, ⟨some 60, .not (.t 59), none⟩]) (.cond (.t 60) (.seq (.reg false [⟨some 2, .mov
  (.k (.v false [.c (.b false)])), none⟩]) .ret) .skip)) (.seq (.reg false [⟨some 9, .mov (.k (.v false [.c (.i .i64 1)])), none⟩]) (.seq (.reg false [⟨some 61,
  .mov (.t 6), none⟩, ⟨some 62, .mov (.t 9), none⟩, ⟨some 63, .call 66 [.t 61, .t 62], none⟩, ⟨some 9, .mov (.t 63), none⟩]) (.seq (.seq (.reg false [⟨some 64,
  .mov (.t 9), none⟩, ⟨some 65, .bin .lss (.t 64) (.k (.v false [.c (.i .i64 0)])), none⟩]) (.cond (.t 65) (.seq (.reg false [⟨some 2, .mov (.k (.v false [.c
  (.b false)])), none⟩]) .ret) .skip)) (.seq (.seq (.reg false [⟨some 66, .mov (.t 9), none⟩, ⟨some 67, .mov (.t 8), none⟩, ⟨some 68, .bin .neq (.t 66) (.t 67),
  none⟩]) (.cond (.t 68) (.seq (.reg false [⟨some 2, .mov (.k (.v false [.c (.b false)])), none⟩]) .ret) .skip)) (.seq (.reg false [⟨some 2, .mov (.k (.v false
  [.c (.b true)])), none⟩]) .ret))))))))))))))))))))))))
theorem hc_laws_FnExactLooseVars : Try.f11.body.bind (comp Try.prog Try.f11.ntmps) = some ac_laws_FnExactLooseVars := by kernel_rfl
theorem k_laws_FnExactLooseVars (r : GRule) : SpecO Try.prog 11 [(true, [.i .i64 r.Kind, .s r.Head.Name, .sl false [.s [], .i .i64 0, .s []] (r.Head.Args.map GTerm.cells), .sl false [.i .i64 0, .s [], .sl false [.s [], .i .i64 0, .s []] [], .i .i64 0, .s [], .i .i64 0, .s [], .s [], .i .i64 0, .s []] (r.Body.map (GLit.cells false false))])] [] (.one (false, [.b true])) := by
  refine spec_of2 true false none Try.func11 hc_laws_FnExactLooseVars (rvs := [.t 2]) (hΓ := mkCtx_ok (deep := true) (l := [(56, [], c_laws_szRule), (58, [], c_laws_toRule), (67, [], c_spec_LooseVars), (68, [], c_impl_LooseVars), (63, [], c_laws_eqStringS), (60, [], c_laws_eqRule), (64, [0], c_laws_markRule), (65, [0], c_laws_markStringS), (66, [], c_laws_heldStringS)]) ⟨c_laws_szRule_ok, c_laws_toRule_ok, c_spec_LooseVars_ok, c_impl_LooseVars_ok, c_laws_eqStringS_ok, c_laws_eqRule_ok, c_laws_markRule_ok, c_laws_markStringS_ok, c_laws_heldStringS_ok, trivial⟩) (h := ?_)
  intro hb hE
  simp only [go_sem] at hb
  unfold ac_laws_FnExactLooseVars
  (first | refine AX_AW ?_ | skip); simp only [go_sem, reduceIte, reduceCtorEq, Nat.reduceEqDiff, Int.reduceToNat, Nat.reduceAdd, Nat.reduceLeDiff, Nat.reduceMul, Nat.reduceSub, Nat.reduceMod, Nat.reduceDiv, Nat.reduceLT, Nat.reduceBEq, List.reduceReplicate, ← and_assoc]; (repeat' first | apply CJ.mk | intro hc); all_goals try ((repeat' first | apply And.intro | intro hs) <;> (try simp only [go_sem, Bool.and_eq_false_iff] at hs) <;> omega)
  all_goals have h6 := loose_len r
  all_goals have h7 := cntLit_bd r.Body
  all_goals (try rw [markLstr_len] at hc)
  all_goals first
    | exact (hc trivial).elim
    | (exfalso; simp at hc; done)
    | (exfalso; rcases hc with h | h; · omega
       exact h trivial)
    | (simp only [szR, totRule, totAtom, markLstr_len] at *; omega)
    | (simp only [szR, totRule, totAtom, markLstr_len] at *; refine ⟨by omega, ?_⟩; trivial)
    | trace_state
noncomputable def c_laws_FnExactLooseVars : List V → Option (Prop × List (Nat × V) × R) := famCt (α := GRule) (fun x => [(true, [.i .i64 x.Kind, .s x.Head.Name, .sl false [.s [], .i .i64 0, .s []] (x.Head.Args.map GTerm.cells), .sl false [.i .i64 0, .s [], .sl false [.s [], .i .i64 0, .s []] [], .i .i64 0, .s [], .i .i64 0, .s [], .s [], .i .i64 0, .s []] (x.Body.map (GLit.cells false false))])]) (fun x => True) (fun x => []) (fun x => .one (false, [.b true]))
@[go_sem] theorem c_laws_FnExactLooseVars_eq (r_Kind : Int) (r_Head_Name : List UInt8) (r_Head_Args : List GTerm) (r_Body : List GLit) : c_laws_FnExactLooseVars [(true, [.i .i64 r_Kind, .s r_Head_Name, .sl false [.s [], .i .i64 0, .s []] (r_Head_Args.map GTerm.cells), .sl false [.i .i64 0, .s [], .sl false [.s [], .i .i64 0, .s []] [], .i .i64 0, .s [], .i .i64 0, .s [], .s [], .i .i64 0, .s []] (r_Body.map (GLit.cells false false))])] = some (True, [], .one (false, [.b true])) := famCt_eq (by rintro ⟨_, ⟨_, _⟩, _⟩ ⟨_, ⟨_, _⟩, _⟩ h; simp only [List.cons.injEq, Prod.mk.injEq, C.i.injEq, C.s.injEq, C.b.injEq, C.sl.injEq, C.p.injEq, C.mp.injEq, C.f.injEq, true_and, and_true, GLit_map_inj, GTerm_map_inj] at h; simp_all) (GRule.mk r_Kind (GAtom.mk r_Head_Name r_Head_Args) r_Body)
theorem c_laws_FnExactLooseVars_ok : ∀ vs q o r, c_laws_FnExactLooseVars vs = some (q, o, r) → q → SpecO Try.prog 11 vs o r := famCt_ok (fun x h => k_laws_FnExactLooseVars x)
end Go.Aw
