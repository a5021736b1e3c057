/- The law of the filled row. No condition. -/
import Derived.Test.YtohdjkpjdddjmaacG7
import Derived.Test.YtohdjkpjdddjmaacB2
import Derived.Test.YtohdjkpjdddjmaacM2
namespace Go.Aw
open Go.Proofs
attribute [local irreducible] aft blk lpK retK AW SpecO
set_option linter.unusedVariables false
set_option linter.unusedSimpArgs false
theorem fillR_len (e : GEnv) (args : List GTerm) : (fillR e args).1.V.length ≤ 6 := by
  unfold fillR fillRow
  by_cases h : (args.length : Int) ≤ 6
  · cases envOk e && args.all termOk && decide ((args.length : Int) ≤ 6) with
    | true =>
      simp only [cond_true]
      cases args.all fun t => (valOf e t).2 with
      | true => simp only [cond_true, List.length_map]; omega
      | false => exact Nat.zero_le _
    | false => exact Nat.zero_le _
  · rw [decide_eq_false h, Bool.and_false]
    exact Nat.zero_le _
set_option maxHeartbeats 2000000
def ac_laws_FnExactFill : ACode := .seq (.reg false [⟨some 2, .box 1 (.t 0), none⟩, ⟨some 4, .mov (.k (.v false [.c (.b false)])), none⟩]) (.seq (.reg false [⟨some 5, .mov (.k (.v false [.c (.i
  .i64 1048576)])), none⟩]) (.seq (.reg false [⟨some 17, .ld true 1 (.t 2), none⟩, ⟨some 18, .mov (.t 5), none⟩, ⟨some 19, .call 14 [.t 17, .t 18], none⟩, ⟨some
  5, .mov (.t 19), none⟩]) (.seq (.seq (.reg false [⟨some 20, .mov (.t 5), none⟩, ⟨some 21, .bin .lss (.t 20) (.k (.v false [.c (.i .i64 0)])), none⟩]) (.cond
  (.t 21) (.seq (.reg false [⟨some 4, .mov (.k (.v false [.c (.b true)])), none⟩]) .ret) .skip)) (.seq (.reg false [⟨some 22, .mov (.t 1), none⟩, ⟨some 23, .mov
  (.t 5), none⟩, ⟨some 24, .call 34 [.t 22, .t 23], none⟩, ⟨some 5, .mov (.t 24), none⟩]) (.seq (.seq (.reg false [⟨some 25, .mov (.t 5), none⟩, ⟨some 26, .bin
  .lss (.t 25) (.k (.v false [.c (.i .i64 0)])), none⟩]) (.cond (.t 26) (.seq (.reg false [⟨some 4, .mov (.k (.v false [.c (.b true)])), none⟩]) .ret) .skip))
  (.seq (.reg false [⟨some 28, .ld true 1 (.t 2), none⟩, ⟨some 29, .call 16 [.t 28], none⟩, ⟨some 30, .mov (.t 1), none⟩, ⟨some 31, .call 36 [.t 30], none⟩,
  ⟨some 32, .call 35 [.t 29, .t 31], none⟩, ⟨some 27, .mov (.t 32), none⟩, ⟨some 33, .ext (.t 27) 0, none⟩, ⟨some 34, .ext (.t 27) 1, none⟩, ⟨some 6, .alloc
  [.sl [.i .i64 0, .s []]], none⟩, ⟨none, .st 1 (.t 6) (.t 33), none⟩, ⟨some 7, .mov (.t 34), none⟩]) (.seq (.reg false [⟨some 35, .ld true 1 (.t 2), none⟩,
  ⟨some 36, .call 16 [.t 35], none⟩, ⟨some 8, .alloc [.sl [.s [], .i .i64 0, .s []]], none⟩, ⟨none, .st 1 (.t 8) (.t 36), none⟩]) (.seq (.reg false [⟨some 37,
  .mov (.t 1), none⟩, ⟨some 38, .call 36 [.t 37], none⟩, ⟨some 9, .mov (.t 38), none⟩]) (.seq (.reg false [⟨some 40, .ld true 1 (.t 8), none⟩, ⟨some 41, .mov
  (.t 9), none⟩, ⟨some 42, .call 37 [.t 40, .t 41], none⟩, ⟨some 39, .mov (.t 42), none⟩, ⟨some 43, .ext (.t 39) 0, none⟩, ⟨some 44, .ext (.t 39) 1, none⟩,
  ⟨some 10, .alloc [.sl [.i .i64 0, .s []]], none⟩, ⟨none, .st 1 (.t 10) (.t 43), none⟩, ⟨some 11, .mov (.t 44), none⟩]) (.seq (.seq (.reg false [⟨some 45, .ld
  true 1 (.t 10), none⟩, ⟨some 46, .ld true 1 (.t 6), none⟩, ⟨some 47, .call 38 [.t 45, .t 46], none⟩, ⟨some 48, .not (.t 47), none⟩, ⟨some 49, .mov (.t 48),
  none⟩, ⟨some 50, .mov (.t 11), some (49, false)⟩, ⟨some 51, .mov (.t 7), some (49, false)⟩, ⟨some 52, .binb .neq (.t 50) (.t 51), some (49, false)⟩, ⟨some 53,
  .pick (.t 49) (.k (.v false [.c (.b true)])) (.t 52), none⟩]) (.cond (.t 53) (.seq (.reg false [⟨some 4, .mov (.k (.v false [.c (.b false)])), none⟩]) .ret)
  .skip)) (.seq (.seq (.reg true [⟨some 54, .ld true 1 (.t 8), none⟩, ⟨some 55, .ld true 1 (.t 2), none⟩, ⟨some 56, .call 16 [.t 55], none⟩, ⟨some 57, .call 18
  [.t 54, .t 56], none⟩, ⟨some 58, .not (.t 57), none⟩]) (.cond (.t 58) (.seq (.reg false [⟨some 4, .mov (.k (.v false [.c (.b false)])), none⟩]) .ret) .skip))
  (.seq (.seq (.reg false [⟨some 59, .mov (.t 9), none⟩, ⟨some 60, .mov (.t 1), none⟩, ⟨some 61, .call 36 [.t 60], none⟩, ⟨some 62, .call 39 [.t 59, .t 61],
  none⟩, ⟨some 63, .not (.t 62), none⟩]) (.cond (.t 63) (.seq (.reg false [⟨some 4, .mov (.k (.v false [.c (.b false)])), none⟩]) .ret) .skip)) (.seq (.reg
  false [⟨some 12, .mov (.k (.v false [.c (.i .i64 1)])), none⟩]) (.seq (.reg false [⟨some 64, .ld true 1 (.t 8), none⟩, ⟨some 65, .mov (.t 12), none⟩, ⟨some
  66, .call 40 [.t 64, .t 65], none⟩, ⟨some 12, .mov (.t 66), none⟩]) (.seq (.reg false [⟨some 67, .mov (.t 9), none⟩, ⟨some 68, .mov (.t 12), none⟩, ⟨some 69,
  .call 41 [.t 67, .t 68], none⟩, ⟨some 12, .mov (.t 69), none⟩]) (.seq (.seq (.reg false [⟨some 70, .mov (.t 12), none⟩, ⟨some 71, .bin .lss (.t 70) (.k (.v
  false [.c (.i .i64 0)])), none⟩, ⟨some 72, .mov (.t 71), none⟩, ⟨some 73, .ld true 1 (.t 10), some (72, false)⟩, ⟨some 74, .ld true 1 (.t 6), some (72,
  false)⟩, ⟨some 75, .call 38 [.t 73, .t 74], some (72, false)⟩, ⟨some 76, .not (.t 75), some (72, false)⟩, ⟨some 77, .pick (.t 72) (.k (.v false [.c (.b
  true)])) (.t 76), none⟩, ⟨some 78, .mov (.t 77), none⟩, ⟨some 79, .mov (.t 11), some (78, false)⟩, ⟨some 80, .mov (.t 7), some (78, false)⟩, ⟨some 81, .binb
  .neq (.t 79) (.t 80), some (78, false)⟩, ⟨some 82, .pick (.t 78) (.k (.v false [.c (.b true)])) (.t 81), none⟩]) (.cond (.t 82) (.seq (.reg false [⟨some 4,
  .mov (.k (.v false [.c (.b false)])), none⟩]) .ret) .skip)) (.seq (.reg false [⟨some 13, .mov (.k (.v false [.c (.i .i64 1)])), none⟩]) (.seq (.reg false
  [⟨some 83, .ld true 1 (.t 10), none⟩, ⟨some 84, .mov (.t 13), none⟩, ⟨some 85, .call 42 [.t 83, .t 84], none⟩, ⟨some 13, .mov (.t 85), none⟩]) (.seq (.reg
  false [⟨some 14, .mov (.k (.v false [.c (.i .i64 1)])), none⟩]) (.seq (.reg false [⟨some 86, .ld true 1 (.t 10), none⟩, ⟨some 87, .mov (.t 14), none⟩, ⟨some
  88, .call 43 [.t 86, .t 87], none⟩, ⟨some 14, .mov (.t 88), none⟩]) (.seq (.seq (.reg false [⟨some 89, .mov (.t 14), none⟩, ⟨some 90, .bin .lss (.t 89) (.k
  (.v false [.c (.i .i64 0)])), none⟩]) (.cond (.t 90) (.seq (.reg false [⟨some 4, .mov (.k (.v false [.c (.b false)])), none⟩]) .ret) .skip)) (.seq (.seq (.reg
  false [⟨some 91, .mov (.t 14), none⟩, ⟨some 92, .mov (.t 13), none⟩, ⟨some 93, .bin .neq (.t 91) (.t 92), none⟩]) (.cond (.t 93) (.seq (.reg false [⟨some 4,
  .mov (.k (.v false [.c (.b false)])), none⟩]) .ret) .skip)) (.seq (.reg false [⟨some 95, .ld true 1 (.t 2), none⟩, ⟨some 96, .call 16 [.t 95], none⟩, ⟨some
  97, .mov (.t 1), none⟩, ⟨some 98, .call 36 [.t 97], none⟩, ⟨some 99, .call 37 [.t 96, .t 98], none⟩, ⟨some 94, .mov (.t 99), none⟩, ⟨some 100, .ext (.t 94) 0,
  none⟩, ⟨some 101, .ext (.t 94) 1, none⟩, ⟨some 15, .alloc [.sl [.i .i64 0, .s []]], none⟩, ⟨none, .st 1 (.t 15) (.t 100), none⟩, ⟨some 16, .mov (.t 101),
  none⟩]) (.seq (.seq (.reg false [⟨some 102, .ld true 1 (.t 15), none⟩, ⟨some 103, .ld true 1 (.t 6), none⟩, ⟨some 104, .call 38 [.t 102, .t 103], none⟩, ⟨some
  105, .not (.t 104), none⟩, ⟨some 106, .mov (.t 105), none⟩, ⟨some 107, .mov (.t 16), some (106, false)⟩, ⟨some 108, .mov (.t 7), some (106, false)⟩, ⟨some
  109, .binb .neq (.t 107) (.t 108), some (106, false)⟩, ⟨some 110, .pick (.t 106) (.k (.v false [.c (.b true)])) (.t 109), none⟩]) (.cond (.t 110) (.seq (.reg
  false [⟨some 4, .mov (.k (.v false [.c (.b false)])), none⟩]) .ret) .skip)) (.seq (.reg false [⟨some 14, .mov (.k (.v false [.c (.i .i64 1)])), none⟩]) (.seq
  (.reg false [⟨some 111, .ld true 1 (.t 10), none⟩, ⟨some 112, .mov (.t 14), none⟩, ⟨some 113, .call 43 [.t 111, .t 112], none⟩, ⟨some 14, .mov (.t 113),
  none⟩]) (.seq (.seq (.reg false [⟨some 114, .mov (.t 14), none⟩, ⟨some 115, .bin .lss (.t 114) (.k (.v false [.c (.i .i64 0)])), none⟩]) (.cond (.t 115) (.seq
  (.reg false [⟨some 4, .mov (.k (.v false [.c (.b false)])), none⟩]) .ret) .skip)) (.seq (.seq (.reg false [⟨some 116, .mov (.t 14), none⟩, ⟨some 117, .mov (.t
  13), none⟩, ⟨some 118, .bin .neq (.t 116) (.t 117), none⟩]) (.cond (.t 118) (.seq (.reg false [⟨some 4, .mov (.k (.v false [.c (.b false)])), none⟩]) .ret)
  .skip)) (.seq (.reg false [⟨some 4, .mov (.k (.v false [.c (.b true)])), none⟩]) .ret)))))))))))))))))))))))))))))
theorem hc_laws_FnExactFill : Try.f9.body.bind (comp Try.prog Try.f9.ntmps) = some ac_laws_FnExactFill := by kernel_rfl
theorem k_laws_FnExactFill (e : GEnv) (args : List GTerm) : SpecO Try.prog 9 [(true, [.sl false [.s [], .i .i64 0, .s []] (e.Binds.map GBind.cells)]), (false, [.sl false [.s [], .i .i64 0, .s []] (args.map GTerm.cells)])] [] (.one (false, [.b true])) := by
  refine spec_of' true false none Try.func9 hc_laws_FnExactFill (rvs := [.t 4]) (by kernel_rfl) (by kernel_rfl) (by kernel_rfl) rfl (mkCtx_ok (deep := true) (l := [(14, [], c_laws_szEnv), (34, [], c_laws_szTermS), (16, [], c_laws_toEnv), (36, [], c_laws_toTermS), (35, [], c_spec_Fill), (37, [], c_impl_Fill), (38, [], c_laws_eqRow), (18, [], c_laws_eqEnv), (39, [], c_laws_eqTermS), (40, [0], c_laws_markEnv), (41, [0], c_laws_markTermS), (42, [0], c_laws_markRow), (43, [], c_laws_heldRow)]) ⟨c_laws_szEnv_ok, c_laws_szTermS_ok, c_laws_toEnv_ok, c_laws_toTermS_ok, c_spec_Fill_ok, c_impl_Fill_ok, c_laws_eqRow_ok, c_laws_eqEnv_ok, c_laws_eqTermS_ok, c_laws_markEnv_ok, c_laws_markTermS_ok, c_laws_markRow_ok, c_laws_heldRow_ok, trivial⟩) ?_
  intro hb hE
  simp only [BndVs, BndL, C.Bnd, BndRs_map, List.length_map, and_true, List.length_cons, List.length_nil, min_i64, max_i64, min_u8, max_u8, maxLen_eq] at hb
  unfold ac_laws_FnExactFill
  repeat' (first | refine aw_seq ?_ | refine aft_n ?_ | refine aft_r ?_ | refine aft_x ?_ | refine blk_n ?_ | refine blk_r ?_ | refine blk_x ?_ | refine blk_y rfl ?_ | refine lpK_r ?_ | refine lpK_x ?_ | refine aw_skip ?_ | refine aw_ret ?_ | refine aw_exit ?_ | refine aw_block ?_ | (refine aw_reg ?_; intro K hK; simp only [go_sem, reduceIte, reduceCtorEq, Nat.reduceEqDiff, Int.reduceToNat, Nat.reduceAdd, Nat.reduceLeDiff, Nat.reduceMul, Nat.reduceSub, Nat.reduceMod, Nat.reduceDiv, Nat.reduceLT, Nat.reduceBEq, List.reduceReplicate, implies_true, imp_self, ← and_assoc, c_laws_szEnv_eq, c_laws_szTermS_eq, c_laws_toEnv_eq, c_laws_toTermS_eq, c_spec_Fill_eq, c_impl_Fill_eq, c_laws_eqRow_eq, c_laws_eqEnv_eq, c_laws_eqTermS_eq, c_laws_markEnv_eq, c_laws_markTermS_eq, c_laws_markRow_eq, c_laws_heldRow_eq]; first | (refine hK _ ?_; clear hK K) | (refine And.intro ?_ (hK _ ?_) <;> clear hK K; rotate_left)) | (refine aw_regd ?_; intro K hK; simp only [go_sem, reduceIte, reduceCtorEq, Nat.reduceEqDiff, Int.reduceToNat, Nat.reduceAdd, Nat.reduceLeDiff, Nat.reduceMul, Nat.reduceSub, Nat.reduceMod, Nat.reduceDiv, Nat.reduceLT, Nat.reduceBEq, List.reduceReplicate, implies_true, imp_self, ← and_assoc, c_laws_szEnv_eq, c_laws_szTermS_eq, c_laws_toEnv_eq, c_laws_toTermS_eq, c_spec_Fill_eq, c_impl_Fill_eq, c_laws_eqRow_eq, c_laws_eqEnv_eq, c_laws_eqTermS_eq, c_laws_markEnv_eq, c_laws_markTermS_eq, c_laws_markRow_eq, c_laws_heldRow_eq]; first | (refine hK _ ?_; clear hK K) | (refine And.intro ?_ (hK _ ?_) <;> clear hK K; rotate_left)) | (refine aw_cond (p := True) (by simp only [go_sem, reduceIte, reduceCtorEq, Nat.reduceEqDiff, Int.reduceToNat, Nat.reduceAdd, Nat.reduceLeDiff, Nat.reduceMul, Nat.reduceSub, Nat.reduceMod, Nat.reduceDiv, Nat.reduceLT, Nat.reduceBEq, List.reduceReplicate, implies_true, imp_self, ← and_assoc, c_laws_szEnv_eq, c_laws_szTermS_eq, c_laws_toEnv_eq, c_laws_toTermS_eq, c_spec_Fill_eq, c_impl_Fill_eq, c_laws_eqRow_eq, c_laws_eqEnv_eq, c_laws_eqTermS_eq, c_laws_markEnv_eq, c_laws_markTermS_eq, c_laws_markRow_eq, c_laws_heldRow_eq]; rfl) trivial ?_ ?_ <;> intro hc <;> try simp only [go_sem, reduceIte, reduceCtorEq, Nat.reduceEqDiff, Int.reduceToNat, Nat.reduceAdd, Nat.reduceLeDiff, Nat.reduceMul, Nat.reduceSub, Nat.reduceMod, Nat.reduceDiv, Nat.reduceLT, Nat.reduceBEq, List.reduceReplicate, implies_true, imp_self, ← and_assoc, c_laws_szEnv_eq, c_laws_szTermS_eq, c_laws_toEnv_eq, c_laws_toTermS_eq, c_spec_Fill_eq, c_impl_Fill_eq, c_laws_eqRow_eq, c_laws_eqEnv_eq, c_laws_eqTermS_eq, c_laws_markEnv_eq, c_laws_markTermS_eq, c_laws_markRow_eq, c_laws_heldRow_eq, Bool.or_eq_false_iff, Bool.not_eq_false'] at hc) | ((first | refine rk_r ?_ | refine rk_n ?_); simp only [go_sem, reduceIte, reduceCtorEq, Nat.reduceEqDiff, Int.reduceToNat, Nat.reduceAdd, Nat.reduceLeDiff, Nat.reduceMul, Nat.reduceSub, Nat.reduceMod, Nat.reduceDiv, Nat.reduceLT, Nat.reduceBEq, List.reduceReplicate, implies_true, imp_self, ← and_assoc, c_laws_szEnv_eq, c_laws_szTermS_eq, c_laws_toEnv_eq, c_laws_toTermS_eq, c_spec_Fill_eq, c_impl_Fill_eq, c_laws_eqRow_eq, c_laws_eqEnv_eq, c_laws_eqTermS_eq, c_laws_markEnv_eq, c_laws_markTermS_eq, c_laws_markRow_eq, c_laws_heldRow_eq, Option.some.injEq, R.one.injEq, R.tup.injEq, Prod.mk.injEq, List.cons.injEq, C.b.injEq, C.i.injEq, C.s.injEq, C.sl.injEq])); all_goals try ((repeat' first | apply And.intro | intro hs) <;> (try simp only [Bool.or_eq_false_iff, Bool.and_eq_false_iff, Bool.and_eq_true, Bool.or_eq_true, decide_eq_true_eq, decide_eq_false_iff_not, Bool.not_eq_true', Bool.not_eq_false'] at hs) <;> omega)
  all_goals have h6 := fillR_len e args
  all_goals (try rw [markLValue_len] at hc)
  all_goals first
    | exact (hc trivial).elim
    | (exfalso; simp at hc; done)
    | (exfalso; rcases hc with h | h; · omega
       exact h trivial)
    | (simp only [szR, totEnv, markLValue_len] at *; omega)
    | (simp only [szR, totEnv, markLValue_len] at *; refine ⟨by omega, ?_⟩; trivial)
    | trace_state
noncomputable def c_laws_FnExactFill : List V → Option (Prop × List (Nat × V) × R) := famCt (α := GEnv × (List GTerm)) (fun x => [(true, [.sl false [.s [], .i .i64 0, .s []] (x.1.Binds.map GBind.cells)]), (false, [.sl false [.s [], .i .i64 0, .s []] (x.2.map GTerm.cells)])]) (fun x => True) (fun x => []) (fun x => .one (false, [.b true]))
theorem c_laws_FnExactFill_eq (e_Binds : List GBind) (args : List GTerm) : c_laws_FnExactFill [(true, [.sl false [.s [], .i .i64 0, .s []] (e_Binds.map GBind.cells)]), (false, [.sl false [.s [], .i .i64 0, .s []] (args.map GTerm.cells)])] = some (True, [], .one (false, [.b true])) := famCt_eq (by rintro ⟨⟨_⟩, _⟩ ⟨⟨_⟩, _⟩ h; simp only [List.cons.injEq, Prod.mk.injEq, C.i.injEq, C.s.injEq, C.b.injEq, C.sl.injEq, C.p.injEq, C.mp.injEq, C.f.injEq, true_and, and_true, GBind_map_inj, GTerm_map_inj] at h; simp_all) ((GEnv.mk e_Binds), args)
theorem c_laws_FnExactFill_ok : ∀ vs q o r, c_laws_FnExactFill vs = some (q, o, r) → q → SpecO Try.prog 9 vs o r := famCt_ok (fun x h => k_laws_FnExactFill x.1 x.2)
end Go.Aw
