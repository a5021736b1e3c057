/- The law of the ports sent to. No condition. -/
import Derived.Test.YtojlgbkikicklaaeeT1
import Derived.Test.YtojlgbkikicklaaeeB1
import Derived.Test.YtojlgbkikicklaaeeM3
namespace Go.Aw
open Go.Proofs
attribute [local irreducible] aft blk lpK retK AW SpecO
set_option linter.unusedVariables false
set_option linter.unusedSimpArgs false
set_option maxRecDepth 100000
theorem sendsTo_len (l : List GAct) : (sendsTo l).length ≤ 255 := by
  cases h : actsOk l with
  | true => rw [sendsTo_up h]; exact upP_len l 255
  | false => rw [sendsTo, h]; exact Nat.zero_le _
set_option maxHeartbeats 2000000
def ac_laws_FnExactSendsTo : ACode := .seq (.reg false [⟨some 2, .mov (.k (.v false [.c (.b false)])), none⟩]) (.seq (.reg false [⟨some 3, .mov (.k (.v false [.c (.i .i64 1048576)])), none⟩]) (.seq
  (.reg false [⟨some 11, .mov (.t 0), none⟩, ⟨some 12, .mov (.t 3), none⟩, ⟨some 13, .call 12 [.t 11, .t 12], none⟩, ⟨some 3, .mov (.t 13), none⟩]) (.seq (.seq
  (.reg false [⟨some 14, .mov (.t 3), none⟩, ⟨some 15, .bin .lss (.t 14) (.k (.v false [.c (.i .i64 0)])), none⟩]) (.cond (.t 15) (.seq (.reg false [⟨some 2,
  .mov (.k (.v false [.c (.b true)])), none⟩]) .ret) .skip)) (.seq (.reg false [⟨some 16, .mov (.t 0), none⟩, ⟨some 17, .call 14 [.t 16], none⟩, ⟨some 18, .call
  13 [.t 17], none⟩, ⟨some 4, .mov (.t 18), none⟩]) (.seq (.reg false [⟨some 19, .mov (.t 0), none⟩, ⟨some 20, .call 14 [.t 19], none⟩, ⟨some 5, .mov (.t 20),
  none⟩]) (.seq (.reg false [⟨some 21, .mov (.t 5), none⟩, ⟨some 22, .call 15 [.t 21], none⟩, ⟨some 6, .mov (.t 22), none⟩]) (.seq (.seq (.reg false [⟨some 23,
  .mov (.t 6), none⟩, ⟨some 24, .mov (.t 4), none⟩, ⟨some 25, .call 16 [.t 23, .t 24], none⟩, ⟨some 26, .not (.t 25), none⟩]) (.cond (.t 26) (.seq (.reg false
  [⟨some 2, .mov (.k (.v false [.c (.b false)])), none⟩]) .ret) .skip)) (.seq (.seq (.reg false [⟨some 27, .mov (.t 5), none⟩, ⟨some 28, .mov (.t 0), none⟩,
  ⟨some 29, .call 14 [.t 28], none⟩, ⟨some 30, .call 17 [.t 27, .t 29], none⟩, ⟨some 31, .not (.t 30), none⟩]) (.cond (.t 31) (.seq (.reg false [⟨some 2, .mov
  (.k (.v false [.c (.b false)])), none⟩]) .ret) .skip)) (.seq (.reg false [⟨some 7, .mov (.k (.v false [.c (.i .i64 1)])), none⟩]) (.seq (.reg false [⟨some 32,
  .mov (.t 5), none⟩, ⟨some 33, .mov (.t 7), none⟩, ⟨some 34, .call 18 [.t 32, .t 33], none⟩, ⟨some 7, .mov (.t 34), none⟩]) (.seq (.seq (.reg false [⟨some 35,
  .mov (.t 7), none⟩, ⟨some 36, .bin .lss (.t 35) (.k (.v false [.c (.i .i64 0)])), none⟩, ⟨some 37, .mov (.t 36), none⟩, ⟨some 38, .mov (.t 6), some (37,
  false)⟩, ⟨some 39, .mov (.t 4), some (37, false)⟩, ⟨some 40, .call 16 [.t 38, .t 39], some (37, false)⟩, ⟨some 41, .not (.t 40), some (37, false)⟩, ⟨some 42,
  .pick (.t 37) (.k (.v false [.c (.b true)])) (.t 41), none⟩]) (.cond (.t 42) (.seq (.reg false [⟨some 2, .mov (.k (.v false [.c (.b false)])), none⟩]) .ret)
  .skip)) (.seq (.reg false [⟨some 8, .mov (.k (.v false [.c (.i .i64 1)])), none⟩]) (.seq (.reg false [⟨some 43, .mov (.t 6), none⟩, ⟨some 44, .mov (.t 8),
  none⟩, ⟨some 45, .call 19 [.t 43, .t 44], none⟩, ⟨some 8, .mov (.t 45), none⟩]) (.seq (.reg false [⟨some 9, .mov (.k (.v false [.c (.i .i64 1)])), none⟩])
  (.seq (.reg false [⟨some 46, .mov (.t 6), none⟩, ⟨some 47, .mov (.t 9), none⟩, ⟨some 48, .call 20 [.t 46, .t 47], none⟩, ⟨some 9, .mov (.t 48), none⟩]) (.seq
  (.seq (.reg false [⟨some 49, .mov (.t 9), none⟩, ⟨some 50, .bin .lss (.t 49) (.k (.v false [.c (.i .i64 0)])), none⟩]) (.cond (.t 50) (.seq (.reg false [⟨some
  2, .mov (.k (.v false [.c (.b false)])), none⟩]) .ret) .skip)) (.seq (.seq (.reg false [⟨some 51, .mov (.t 9), none⟩, ⟨some 52, .mov (.t 8), none⟩, ⟨some 53,
  .bin .neq (.t 51) (.t 52), none⟩]) (.cond (.t 53) (.seq (.reg false [⟨some 2, .mov (.k (.v false [.c (.b false)])), none⟩]) .ret) .skip)) (.seq (.reg false
  [⟨some 54, .mov (.t 0), none⟩, ⟨some 55, .call 14 [.t 54], none⟩, ⟨some 56, .call 15 [.t 55], none⟩, ⟨some 10, .mov (.t 56), none⟩]) (.seq (.seq (.reg false
  [⟨some 57, .mov (.t 10), none⟩, ⟨some 58, .mov (.t 4), none⟩, ⟨some 59, .call 16 [.t 57, .t 58], none⟩, ⟨some 60, .not (.t 59), none⟩]) (.cond (.t 60) (.seq
  (.reg false [⟨some 2, .mov (.k (.v false [.c (.b false)])), none⟩]) .ret) .skip)) (.seq (.reg false [⟨some 9, .mov (.k (.v false [.c (.i .i64 1)])), none⟩])
  (.seq (.reg false [⟨some 61, .mov (.t 6), none⟩, ⟨some 62, .mov (.t 9), none⟩, ⟨some 63, .call 20 [.t 61, .t 62], none⟩, ⟨some 9, .mov (.t 63), none⟩]) (.seq
  (.seq (.reg false [⟨some 64, .mov (.t 9), none⟩, ⟨some 65, .bin .lss (.t 64) (.k (.v false [.c (.i .i64 0)])), none⟩]) (.cond (.t 65) (.seq (.reg false [⟨some
  2, .mov (.k (.v false [.c (.b false)])), none⟩]) .ret) .skip)) (.seq (.seq (.reg false [⟨some 66, .mov (.t 9), none⟩, ⟨some 67, .mov (.t 8), none⟩, ⟨some 68,
  .bin .neq (.t 66) (.t 67), none⟩]) (.cond (.t 68) (.seq (.reg false [⟨some 2, .mov (.k (.v false [.c (.b false)])), none⟩]) .ret) .skip)) (.seq (.reg false
  [⟨some 2, .mov (.k (.v false [.c (.b true)])), none⟩]) .ret))))))))))))))))))))))))
theorem hc_laws_FnExactSendsTo : Try.f3.body.bind (comp Try.prog Try.f3.ntmps) = some ac_laws_FnExactSendsTo := by kernel_rfl
theorem k_laws_FnExactSendsTo (l : List GAct) : SpecO Try.prog 3 [(false, [.sl false [.i .i64 0, .i .i64 0, .i .i64 0] (l.map GAct.cells)])] [] (.one (false, [.b true])) := by
  refine spec_of2 true false none Try.func3 hc_laws_FnExactSendsTo (rvs := [.t 2]) (hΓ := mkCtx_ok (deep := true) (l := [(12, [], c_laws_szActS), (14, [], c_laws_toActS), (13, [], c_spec_SendsTo), (15, [], c_impl_SendsTo), (16, [], c_laws_eqIntS), (17, [], c_laws_eqActS), (18, [0], c_laws_markActS), (19, [0], c_laws_markIntS), (20, [], c_laws_heldIntS)]) ⟨c_laws_szActS_ok, c_laws_toActS_ok, c_spec_SendsTo_ok, c_impl_SendsTo_ok, c_laws_eqIntS_ok, c_laws_eqActS_ok, c_laws_markActS_ok, c_laws_markIntS_ok, c_laws_heldIntS_ok, trivial⟩) (h := ?_)
  intro hb hE
  simp only [go_sem] at hb
  unfold ac_laws_FnExactSendsTo
  (first | refine AX_AW ?_ | skip); simp only [go_sem, reduceIte, reduceCtorEq, Nat.reduceEqDiff, Int.reduceToNat, Nat.reduceAdd, Nat.reduceLeDiff, Nat.reduceMul, Nat.reduceSub, Nat.reduceMod, Nat.reduceDiv, Nat.reduceLT, Nat.reduceBEq, List.reduceReplicate, ← and_assoc]; (repeat' first | apply CJ.mk | intro hc); all_goals try ((repeat' first | apply And.intro | intro hs) <;> (try simp only [go_sem, Bool.and_eq_false_iff] at hs) <;> omega)
  all_goals have h6 := sendsTo_len l
  all_goals (try rw [markLint_len] at hc)
  all_goals first
    | exact (hc trivial).elim
    | (exfalso; simp at hc; done)
    | (exfalso; rcases hc with h | h; · omega
       exact h trivial)
    | (simp only [szR, markLint_len] at *; omega)
    | (simp only [szR, markLint_len] at *; refine ⟨by omega, ?_⟩; trivial)
    | trace_state
noncomputable def c_laws_FnExactSendsTo : List V → Option (Prop × List (Nat × V) × R) := famCt (α := (List GAct)) (fun x => [(false, [.sl false [.i .i64 0, .i .i64 0, .i .i64 0] (x.map GAct.cells)])]) (fun x => True) (fun x => []) (fun x => .one (false, [.b true]))
@[go_sem] theorem c_laws_FnExactSendsTo_eq (l : List GAct) : c_laws_FnExactSendsTo [(false, [.sl false [.i .i64 0, .i .i64 0, .i .i64 0] (l.map GAct.cells)])] = some (True, [], .one (false, [.b true])) := famCt_eq (by intro x y h; simp only [List.cons.injEq, Prod.mk.injEq, C.i.injEq, C.s.injEq, C.b.injEq, C.sl.injEq, C.p.injEq, C.mp.injEq, C.f.injEq, true_and, and_true, GAct_map_inj] at h; simp_all) l
theorem c_laws_FnExactSendsTo_ok : ∀ vs q o r, c_laws_FnExactSendsTo vs = some (q, o, r) → q → SpecO Try.prog 3 vs o r := famCt_ok (fun x h => k_laws_FnExactSendsTo x)
end Go.Aw
