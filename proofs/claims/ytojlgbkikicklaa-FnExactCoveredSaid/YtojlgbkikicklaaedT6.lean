/- Proofs that cover. No condition. -/
import Derived.Test.YtojlgbkikicklaaedT5
namespace Go.Aw
open Go.Proofs
attribute [local irreducible] aft blk lpK retK AW SpecO
set_option linter.unusedVariables false
set_option linter.unusedSimpArgs false
set_option maxRecDepth 100000
def covBad (v : GStore) (l : List GStep) (i : Nat) : Bool := !hasRow (relOf v (l.getD i default).Name).1.Rows (l.getD i default).Row || doneB (l.take i) (l.getD i default).Name (l.getD i default).Row
def covered (v : GStore) (l : List GStep) : Bool := storeOk v && (l.length : Int) == (rowsN v : Nat) && !anyN l.length (covBad v l)
theorem relOf_ok {v : GStore} (h : storeOk v = true) (n : List UInt8) : relOk (relOf v n).1 = true := by
  unfold relOf
  split
  · rename_i h0
    have hl := idxL_lt (p := fun x : GNamed => x.Name == n) (l := v.Rels)
    have hm : (idxL (fun x : GNamed => x.Name == n) v.Rels).toNat < v.Rels.length := by omega
    have := storeOk_rel h _ (List.getElem_mem hm)
    simp only [getD_lt default hm]
    exact this
  · rfl
theorem has_ok {r : GRel} (h : relOk r = true) {t : GRow} (ht : hasRow r.Rows t = true) : rowOk t = true := by
  rw [hasRow, List.any_eq_true] at ht
  obtain ⟨x, hx, he⟩ := ht
  obtain ⟨k, hk, rfl⟩ := List.getElem_of_mem hx
  simp only [relOk, Bool.and_eq_true, Bool.not_eq_true'] at h
  have := relBad_row (anyN_no h.2 hk)
  rw [getD_lt default hk, rowOk] at this
  rw [decide_eq_true_eq] at he
  rw [rowOk, ← he]; exact this
theorem cut_zero2 {α : Type} (l : List α) (n : Nat) : cut l 0 n = l.take n := by unfold cut; simp
theorem cov_no {v : GStore} {l : List GStep} {i : Nat} (hi : i < l.length) (h : covBad v l i = true) : covered v l = false := by
  rw [covered, anyN_true hi h]; simp
theorem cov_yes {v : GStore} {l : List GStep} (hs : storeOk v = true) (hn : ((l.length : Int) == (rowsN v : Nat)) = true) (h : anyN l.length (covBad v l) = false) : covered v l = true := by
  rw [covered, hs, hn, h]; rfl
def ac_spec_Covered : ACode := .seq (.reg false [⟨some 2, .box 1 (.t 0), none⟩, ⟨some 4, .mov (.k (.v false [.c (.b false)])), none⟩]) (.seq (.seq (.reg false [⟨some 6, .ld true 1 (.t 2),
  none⟩, ⟨some 7, .call 123 [.t 6], none⟩, ⟨some 8, .not (.t 7), none⟩, ⟨some 9, .mov (.t 8), none⟩, ⟨some 10, .mov (.t 1), some (9, false)⟩, ⟨some 11, .len (.t
  10), some (9, false)⟩, ⟨some 12, .ld true 1 (.t 2), some (9, false)⟩, ⟨some 13, .call 124 [.t 12], some (9, false)⟩, ⟨some 14, .bin .neq (.t 11) (.t 13), some
  (9, false)⟩, ⟨some 15, .pick (.t 9) (.k (.v false [.c (.b true)])) (.t 14), none⟩]) (.cond (.t 15) (.seq (.reg false [⟨some 4, .mov (.k (.v false [.c (.b
  false)])), none⟩]) .ret) .skip)) (.seq (.seq (.reg false [⟨some 16, .mov (.t 1), none⟩, ⟨some 17, .len (.t 16), none⟩, ⟨some 18, .mov (.k (.v false [.c (.i
  .i64 0)])), none⟩]) (.block 0 (.loop (.seq (.reg false [⟨some 19, .bin .lss (.t 18) (.t 17), none⟩]) (.seq (.cond (.t 19) .skip (.exit 0)) (.seq (.block 1
  (.seq (.reg false [⟨some 20, .mov (.t 18), none⟩, ⟨some 5, .mov (.t 20), none⟩]) (.seq (.reg true [⟨some 21, .ld true 1 (.t 2), none⟩, ⟨some 22, .mov (.t 1),
  none⟩, ⟨some 23, .mov (.t 5), none⟩, ⟨some 24, .ia 4 (.t 22) (.t 23), none⟩, ⟨some 25, .fa 0 (.t 24), none⟩, ⟨some 26, .ld false 1 (.t 25), none⟩, ⟨some 27,
  .mov (.t 1), none⟩, ⟨some 28, .mov (.t 5), none⟩, ⟨some 29, .ia 4 (.t 27) (.t 28), none⟩, ⟨some 30, .fa 1 (.t 29), none⟩, ⟨some 31, .ld true 1 (.t 30), none⟩,
  ⟨some 32, .call 125 [.t 21, .t 26, .t 31], none⟩, ⟨some 33, .not (.t 32), none⟩, ⟨some 34, .mov (.t 33), none⟩, ⟨some 35, .mov (.t 1), some (34, false)⟩,
  ⟨some 36, .mov (.t 5), some (34, false)⟩, ⟨some 37, .slc 4 (.t 35) none (some (.t 36)) none, some (34, false)⟩, ⟨some 38, .mov (.t 1), some (34, false)⟩,
  ⟨some 39, .mov (.t 5), some (34, false)⟩, ⟨some 40, .ia 4 (.t 38) (.t 39), some (34, false)⟩, ⟨some 41, .fa 0 (.t 40), some (34, false)⟩, ⟨some 42, .ld false
  1 (.t 41), some (34, false)⟩, ⟨some 43, .mov (.t 1), some (34, false)⟩, ⟨some 44, .mov (.t 5), some (34, false)⟩, ⟨some 45, .ia 4 (.t 43) (.t 44), some (34,
  false)⟩, ⟨some 46, .fa 1 (.t 45), some (34, false)⟩, ⟨some 47, .ld true 1 (.t 46), some (34, false)⟩, ⟨some 48, .call 126 [.t 37, .t 42, .t 47], some (34,
  false)⟩, ⟨some 49, .pick (.t 34) (.k (.v false [.c (.b true)])) (.t 48), none⟩]) (.cond (.t 49) (.seq (.reg false [⟨some 4, .mov (.k (.v false [.c (.b
  false)])), none⟩]) .ret) .skip)))) (.reg false [⟨some 50, .bin .add (.t 18) (.k (.v false [.c (.i .i64 1)])), none⟩, ⟨some 18, .mov (.t 50), none⟩])))))))
  (.seq (.reg false [⟨some 4, .mov (.k (.v false [.c (.b true)])), none⟩]) .ret)))
theorem hc_spec_Covered : Try.f48.body.bind (comp Try.prog Try.f48.ntmps) = some ac_spec_Covered := by kernel_rfl
theorem k_spec_Covered (v : GStore) (l : List GStep) : SpecO Try.prog 48 [(true, [.sl false [.s [], .i .i64 0, .sl false [.sl false [.i .i64 0, .s []] []] []] (v.Rels.map (GNamed.cells false false))]), (false, [.sl false [.s [], .sl false [.i .i64 0, .s []] [], .i .i64 0, .sl false [.s [], .i .i64 0, .s []] []] (l.map (GStep.cells false false))])] [] (.one (false, [.b (covered v l)])) := by
  refine spec_of2 false false none Try.func48 hc_spec_Covered (rvs := [.t 4]) (hΓ := mkCtx_ok (deep := false) (l := [(123, [], c_spec_StoreOk), (124, [], c_spec_l22Rows), (125, [], c_spec_l21In), (126, [], c_spec_l23Done)]) ⟨c_spec_StoreOk_ok, c_spec_l22Rows_ok, c_spec_l21In_ok, c_spec_l23Done_ok, trivial⟩) (h := ?_)
  intro hb hE
  simp only [go_sem] at hb
  unfold ac_spec_Covered
  (first | refine AX_AW ?_ | skip); simp only [go_sem, reduceIte, reduceCtorEq, Nat.reduceEqDiff, Int.reduceToNat, Nat.reduceAdd, Nat.reduceLeDiff, Nat.reduceMul, Nat.reduceSub, Nat.reduceMod, Nat.reduceDiv, Nat.reduceLT, Nat.reduceBEq, List.reduceReplicate, ← and_assoc]; (repeat' first | apply CJ.mk | intro hc); all_goals try ((repeat' first | apply And.intro | intro hs) <;> (try simp only [go_sem, Bool.and_eq_false_iff] at hs) <;> omega)
  · rcases hc with h | h
    · rw [covered, h]; rfl
    · skip
      rw [covered, show ((l.length : Int) == (rowsN v : Nat)) = false by simpa [bne] using h]; simp
  obtain ⟨hs, hn⟩ := hc
  have hn' : ((l.length : Int) == (rowsN v : Nat)) = true := by
    simp only [bne, Bool.not_eq_false', beq_iff_eq] at hn ⊢; omega
  clear hn
  refine aw_loop2 false [] [1, 2, 17] [4] [] (fun i : {i : Nat // i ≤ l.length ∧ anyN i (covBad v l) = false} => [(18, slV (.i .i64 i.1))]) (fun i => []) (fun i => []) (fun i => l.length - i.1) (⟨0, by simp [anyN_zero]⟩) _ rfl ?_ ?_
  · simp only [go_sem, reduceIte, reduceCtorEq, Nat.reduceEqDiff, Int.reduceToNat, Nat.reduceAdd, Nat.reduceLeDiff, Nat.reduceMul, Nat.reduceSub, Nat.reduceMod, Nat.reduceDiv, Nat.reduceLT, Nat.reduceBEq, List.reduceReplicate, ← and_assoc]
    all_goals first | omega | ((repeat' apply And.intro) <;> first | omega | rfl | skip)
  intro S0 hS0 i
  simp only [go_sem, reduceIte, reduceCtorEq, Nat.reduceEqDiff, Int.reduceToNat, Nat.reduceAdd, Nat.reduceLeDiff, Nat.reduceMul, Nat.reduceSub, Nat.reduceMod, Nat.reduceDiv, Nat.reduceLT, Nat.reduceBEq, List.reduceReplicate, ← and_assoc] at hS0
  obtain ⟨i, hi, ha⟩ := i
  (first | refine AX_AW ?_ | skip); simp only [go_sem, reduceIte, reduceCtorEq, Nat.reduceEqDiff, Int.reduceToNat, Nat.reduceAdd, Nat.reduceLeDiff, Nat.reduceMul, Nat.reduceSub, Nat.reduceMod, Nat.reduceDiv, Nat.reduceLT, Nat.reduceBEq, List.reduceReplicate, ← and_assoc, hS0]; (repeat' first | apply CJ.mk | intro hc); all_goals try ((repeat' first | apply And.intro | intro hs) <;> (try simp only [go_sem, Bool.and_eq_false_iff] at hs) <;> omega)
  · have hq : covBad v l i = true := by
      rw [cut_zero2] at hc
      rw [covBad]
      rcases hc with h | h <;> rw [h] <;> simp
    rw [cov_no (by omega) hq]
  · have hq : covBad v l i = false := by
      rw [cut_zero2] at hc
      rw [covBad, hc.1, hc.2]; rfl
    (refine lpK_n2 (⟨i + 1, by omega, anyN_succ ha hq⟩) _ rfl ?_; simp only [go_sem, reduceIte, reduceCtorEq, Nat.reduceEqDiff, Int.reduceToNat, Nat.reduceAdd, Nat.reduceLeDiff, Nat.reduceMul, Nat.reduceSub, Nat.reduceMod, Nat.reduceDiv, Nat.reduceLT, Nat.reduceBEq, List.reduceReplicate, ← and_assoc, hS0]; first | done | ((repeat' apply And.intro) <;> first | omega | (refine w64 ?_ ?_ ?_ <;> omega) | rfl | skip))
  · obtain rfl : i = l.length := by omega
    rw [cov_yes hs hn' ha]
noncomputable def c_spec_Covered : List V → Option (Prop × List (Nat × V) × R) := famCt (α := GStore × (List GStep)) (fun x => [(true, [.sl false [.s [], .i .i64 0, .sl false [.sl false [.i .i64 0, .s []] []] []] (x.1.Rels.map (GNamed.cells false false))]), (false, [.sl false [.s [], .sl false [.i .i64 0, .s []] [], .i .i64 0, .sl false [.s [], .i .i64 0, .s []] []] (x.2.map (GStep.cells false false))])]) (fun x => True) (fun x => []) (fun x => .one (false, [.b (covered x.1 x.2)]))
@[go_sem] theorem c_spec_Covered_eq (v_Rels : List GNamed) (l : List GStep) : c_spec_Covered [(true, [.sl false [.s [], .i .i64 0, .sl false [.sl false [.i .i64 0, .s []] []] []] (v_Rels.map (GNamed.cells false false))]), (false, [.sl false [.s [], .sl false [.i .i64 0, .s []] [], .i .i64 0, .sl false [.s [], .i .i64 0, .s []] []] (l.map (GStep.cells false false))])] = some (True, [], .one (false, [.b (covered (GStore.mk v_Rels) l)])) := famCt_eq (by rintro ⟨⟨_⟩, _⟩ ⟨⟨_⟩, _⟩ h; simp only [List.cons.injEq, Prod.mk.injEq, C.i.injEq, C.s.injEq, C.b.injEq, C.sl.injEq, C.p.injEq, C.mp.injEq, C.f.injEq, true_and, and_true, GNamed_map_inj, GStep_map_inj] at h; simp_all) ((GStore.mk v_Rels), l)
theorem c_spec_Covered_ok : ∀ vs q o r, c_spec_Covered vs = some (q, o, r) → q → SpecO Try.prog 48 vs o r := famCt_ok (fun x h => k_spec_Covered x.1 x.2)
def ac_impl_Covered : ACode := .seq (.reg false [⟨some 2, .box 1 (.t 0), none⟩, ⟨some 4, .mov (.k (.v false [.c (.b false)])), none⟩]) (.seq (.seq (.reg false [⟨some 9, .ld true 1 (.t 2),
  none⟩, ⟨some 10, .call 129 [.t 9], none⟩, ⟨some 11, .not (.t 10), none⟩, ⟨some 12, .mov (.t 11), none⟩, ⟨some 13, .ld true 1 (.t 2), some (12, false)⟩, ⟨some
  14, .call 130 [.t 13], some (12, false)⟩, ⟨some 15, .mov (.t 1), some (12, false)⟩, ⟨some 16, .len (.t 15), some (12, false)⟩, ⟨some 17, .bin .neq (.t 14) (.t
  16), some (12, false)⟩, ⟨some 18, .pick (.t 12) (.k (.v false [.c (.b true)])) (.t 17), none⟩]) (.cond (.t 18) (.seq (.reg false [⟨some 4, .mov (.k (.v false
  [.c (.b false)])), none⟩]) .ret) .skip)) (.seq (.seq (.reg false [⟨some 19, .mov (.t 1), none⟩, ⟨some 20, .len (.t 19), none⟩, ⟨some 21, .mov (.k (.v false
  [.c (.i .i64 0)])), none⟩]) (.block 0 (.loop (.seq (.reg false [⟨some 22, .bin .lss (.t 21) (.t 20), none⟩]) (.seq (.cond (.t 22) .skip (.exit 0)) (.seq
  (.block 1 (.seq (.reg false [⟨some 23, .mov (.t 21), none⟩, ⟨some 24, .ia 4 (.t 19) (.t 21), none⟩, ⟨some 25, .ld true 4 (.t 24), none⟩, ⟨some 6, .alloc [.s,
  .sl [.i .i64 0, .s []], .i .i64, .sl [.s [], .i .i64 0, .s []]], none⟩, ⟨some 5, .mov (.t 23), none⟩, ⟨none, .st 4 (.t 6) (.t 25), none⟩]) (.seq (.reg false
  [⟨some 27, .ld true 1 (.t 2), none⟩, ⟨some 28, .fa 0 (.t 6), none⟩, ⟨some 29, .ld false 1 (.t 28), none⟩, ⟨some 30, .call 131 [.t 27, .t 29], none⟩, ⟨some 26,
  .mov (.t 30), none⟩, ⟨some 31, .ext (.t 26) 0, none⟩, ⟨some 32, .ext (.t 26) 1, none⟩, ⟨some 7, .alloc [.i .i64, .sl [.sl false [.i .i64 0, .s []] []]],
  none⟩, ⟨none, .st 2 (.t 7) (.t 31), none⟩, ⟨some 8, .mov (.t 32), none⟩]) (.seq (.reg true [⟨some 33, .fa 1 (.t 6), none⟩, ⟨some 34, .ld true 1 (.t 33),
  none⟩, ⟨some 35, .call 93 [.t 34], none⟩, ⟨some 36, .not (.t 35), none⟩, ⟨some 37, .mov (.t 36), none⟩, ⟨some 38, .ld true 2 (.t 7), some (37, false)⟩, ⟨some
  39, .fa 1 (.t 6), some (37, false)⟩, ⟨some 40, .ld true 1 (.t 39), some (37, false)⟩, ⟨some 41, .call 132 [.t 38, .t 40], some (37, false)⟩, ⟨some 42, .not
  (.t 41), some (37, false)⟩, ⟨some 43, .pick (.t 37) (.k (.v false [.c (.b true)])) (.t 42), none⟩, ⟨some 44, .mov (.t 43), none⟩, ⟨some 45, .mov (.t 1), some
  (44, false)⟩, ⟨some 46, .mov (.t 5), some (44, false)⟩, ⟨some 47, .slc 4 (.t 45) none (some (.t 46)) none, some (44, false)⟩, ⟨some 48, .fa 0 (.t 6), some
  (44, false)⟩, ⟨some 49, .ld false 1 (.t 48), some (44, false)⟩, ⟨some 50, .fa 1 (.t 6), some (44, false)⟩, ⟨some 51, .ld true 1 (.t 50), some (44, false)⟩,
  ⟨some 52, .call 133 [.t 47, .t 49, .t 51], some (44, false)⟩, ⟨some 53, .pick (.t 44) (.k (.v false [.c (.b true)])) (.t 52), none⟩]) (.cond (.t 53) (.seq
  (.reg false [⟨some 4, .mov (.k (.v false [.c (.b false)])), none⟩]) .ret) .skip))))) (.reg false [⟨some 54, .bin .add (.t 21) (.k (.v false [.c (.i .i64
  1)])), none⟩, ⟨some 21, .mov (.t 54), none⟩]))))))) (.seq (.reg false [⟨some 4, .mov (.k (.v false [.c (.b true)])), none⟩]) .ret)))
theorem hc_impl_Covered : Try.f51.body.bind (comp Try.prog Try.f51.ntmps) = some ac_impl_Covered := by kernel_rfl
theorem k_impl_Covered (v : GStore) (l : List GStep) : SpecO Try.prog 51 [(true, [.sl false [.s [], .i .i64 0, .sl false [.sl false [.i .i64 0, .s []] []] []] (v.Rels.map (GNamed.cells false false))]), (false, [.sl false [.s [], .sl false [.i .i64 0, .s []] [], .i .i64 0, .sl false [.s [], .i .i64 0, .s []] []] (l.map (GStep.cells false false))])] [] (.one (false, [.b (covered v l)])) := by
  refine spec_of2 false false none Try.func51 hc_impl_Covered (rvs := [.t 4]) (hΓ := mkCtx_ok (deep := false) (l := [(129, [], c_impl_StoreOk), (130, [], c_impl_countRows), (131, [], c_impl_named), (93, [], c_impl_RowOk), (132, [], c_impl_has), (133, [], c_impl_isDone)]) ⟨c_impl_StoreOk_ok, c_impl_countRows_ok, c_impl_named_ok, c_impl_RowOk_ok, c_impl_has_ok, c_impl_isDone_ok, trivial⟩) (h := ?_)
  intro hb hE
  simp only [go_sem] at hb
  unfold ac_impl_Covered
  (first | refine AX_AW ?_ | skip); simp only [go_sem, reduceIte, reduceCtorEq, Nat.reduceEqDiff, Int.reduceToNat, Nat.reduceAdd, Nat.reduceLeDiff, Nat.reduceMul, Nat.reduceSub, Nat.reduceMod, Nat.reduceDiv, Nat.reduceLT, Nat.reduceBEq, List.reduceReplicate, ← and_assoc]; (repeat' first | apply CJ.mk | intro hc); all_goals try ((repeat' first | apply And.intro | intro hs) <;> (try simp only [go_sem, Bool.and_eq_false_iff] at hs) <;> omega)
  · rcases hc with h | h
    · rw [covered, h]; rfl
    · skip
      rw [covered, show ((l.length : Int) == (rowsN v : Nat)) = false by rw [beq_eq_false_iff_ne]; intro e; rw [e] at h; simp at h]; simp
  obtain ⟨hs, hn⟩ := hc
  have hn' : ((l.length : Int) == (rowsN v : Nat)) = true := by
    simp only [bne, Bool.not_eq_false', beq_iff_eq] at hn ⊢; omega
  clear hn
  refine aw_loop2 false [] [1, 2, 19, 20] [4] [] (fun i : {i : Nat // i ≤ l.length ∧ anyN i (covBad v l) = false} => [(21, slV (.i .i64 i.1))]) (fun i => []) (fun i => []) (fun i => l.length - i.1) (⟨0, by simp [anyN_zero]⟩) _ rfl ?_ ?_
  · simp only [go_sem, reduceIte, reduceCtorEq, Nat.reduceEqDiff, Int.reduceToNat, Nat.reduceAdd, Nat.reduceLeDiff, Nat.reduceMul, Nat.reduceSub, Nat.reduceMod, Nat.reduceDiv, Nat.reduceLT, Nat.reduceBEq, List.reduceReplicate, ← and_assoc]
    all_goals first | omega | ((repeat' apply And.intro) <;> first | omega | rfl | skip)
  intro S0 hS0 i
  simp only [go_sem, reduceIte, reduceCtorEq, Nat.reduceEqDiff, Int.reduceToNat, Nat.reduceAdd, Nat.reduceLeDiff, Nat.reduceMul, Nat.reduceSub, Nat.reduceMod, Nat.reduceDiv, Nat.reduceLT, Nat.reduceBEq, List.reduceReplicate, ← and_assoc] at hS0
  obtain ⟨i, hi, ha⟩ := i
  (first | refine AX_AW ?_ | skip); simp only [go_sem, reduceIte, reduceCtorEq, Nat.reduceEqDiff, Int.reduceToNat, Nat.reduceAdd, Nat.reduceLeDiff, Nat.reduceMul, Nat.reduceSub, Nat.reduceMod, Nat.reduceDiv, Nat.reduceLT, Nat.reduceBEq, List.reduceReplicate, ← and_assoc, hS0]; (repeat' first | apply CJ.mk | intro hc); all_goals try ((repeat' first | apply And.intro | intro hs) <;> (try simp only [go_sem, Bool.and_eq_false_iff] at hs) <;> omega)
  · exact ⟨relOf_ok hs _, hc⟩
  · have hq : covBad v l i = true := by
      rw [cut_zero2] at hc
      rw [covBad]
      rcases hc with (h | h) | h
      · have : hasRow (relOf v (l.getD i default).Name).1.Rows (l.getD i default).Row = false := by
          cases hh : hasRow (relOf v (l.getD i default).Name).1.Rows (l.getD i default).Row with
          | false => rfl
          | true => rw [has_ok (relOf_ok hs _) hh] at h; cases h
        rw [this]; rfl
      · rw [h]; rfl
      · rw [h]; simp
    rw [cov_no (by omega) hq]
  · have hq : covBad v l i = false := by
      rw [cut_zero2] at hc
      rw [covBad, hc.1.2, hc.2]; rfl
    (refine lpK_n2 (⟨i + 1, by omega, anyN_succ ha hq⟩) _ rfl ?_; simp only [go_sem, reduceIte, reduceCtorEq, Nat.reduceEqDiff, Int.reduceToNat, Nat.reduceAdd, Nat.reduceLeDiff, Nat.reduceMul, Nat.reduceSub, Nat.reduceMod, Nat.reduceDiv, Nat.reduceLT, Nat.reduceBEq, List.reduceReplicate, ← and_assoc, hS0]; first | done | ((repeat' apply And.intro) <;> first | omega | (refine w64 ?_ ?_ ?_ <;> omega) | rfl | skip))
  · obtain rfl : i = l.length := by omega
    rw [cov_yes hs hn' ha]
noncomputable def c_impl_Covered : List V → Option (Prop × List (Nat × V) × R) := famCt (α := GStore × (List GStep)) (fun x => [(true, [.sl false [.s [], .i .i64 0, .sl false [.sl false [.i .i64 0, .s []] []] []] (x.1.Rels.map (GNamed.cells false false))]), (false, [.sl false [.s [], .sl false [.i .i64 0, .s []] [], .i .i64 0, .sl false [.s [], .i .i64 0, .s []] []] (x.2.map (GStep.cells false false))])]) (fun x => True) (fun x => []) (fun x => .one (false, [.b (covered x.1 x.2)]))
@[go_sem] theorem c_impl_Covered_eq (v_Rels : List GNamed) (l : List GStep) : c_impl_Covered [(true, [.sl false [.s [], .i .i64 0, .sl false [.sl false [.i .i64 0, .s []] []] []] (v_Rels.map (GNamed.cells false false))]), (false, [.sl false [.s [], .sl false [.i .i64 0, .s []] [], .i .i64 0, .sl false [.s [], .i .i64 0, .s []] []] (l.map (GStep.cells false false))])] = some (True, [], .one (false, [.b (covered (GStore.mk v_Rels) l)])) := famCt_eq (by rintro ⟨⟨_⟩, _⟩ ⟨⟨_⟩, _⟩ h; simp only [List.cons.injEq, Prod.mk.injEq, C.i.injEq, C.s.injEq, C.b.injEq, C.sl.injEq, C.p.injEq, C.mp.injEq, C.f.injEq, true_and, and_true, GNamed_map_inj, GStep_map_inj] at h; simp_all) ((GStore.mk v_Rels), l)
theorem c_impl_Covered_ok : ∀ vs q o r, c_impl_Covered vs = some (q, o, r) → q → SpecO Try.prog 51 vs o r := famCt_ok (fun x h => k_impl_Covered x.1 x.2)
end Go.Aw
