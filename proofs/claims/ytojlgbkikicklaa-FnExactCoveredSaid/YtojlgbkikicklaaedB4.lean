/- Stores and steps: sizes, copies, equalities. No condition. -/
import Derived.Test.YtojlgbkikicklaaedB0
namespace Go.Aw
open Go.Proofs
attribute [local irreducible] aft blk lpK retK AW SpecO
set_option linter.unusedVariables false
set_option linter.unusedSimpArgs false
set_option maxRecDepth 100000
def totRow (x : GRow) : Nat := (x.V.length + tots totValue x.V)
def totRel (x : GRel) : Nat := (x.Rows.length + tots totRow x.Rows)
def totNamed (x : GNamed) : Nat := x.Name.length + totRel x.Rel
def totStore (x : GStore) : Nat := (x.Rels.length + tots totNamed x.Rels)
def totStep (x : GStep) : Nat := x.Name.length + totRow x.Row + totEnv x.Env
def ac_laws_szValueS : ACode := .seq (.reg false [⟨some 4, .mov (.k (.v false [.c (.i .i64 0)])), none⟩]) (.seq (.reg false [⟨some 6, .mov (.t 1), none⟩, ⟨some 7, .mov (.t 0), none⟩, ⟨some 8,
  .len (.t 7), none⟩, ⟨some 9, .bin .sub (.t 6) (.t 8), none⟩, ⟨some 1, .mov (.t 9), none⟩]) (.seq (.seq (.reg false [⟨some 10, .mov (.t 1), none⟩, ⟨some 11,
  .bin .lss (.t 10) (.k (.v false [.c (.i .i64 0)])), none⟩]) (.cond (.t 11) (.seq (.reg false [⟨some 4, .mov (.k (.v false [.c (.i .i64 (-1))])), none⟩]) .ret)
  .skip)) (.seq (.seq (.reg false [⟨some 5, .mov (.k (.v false [.c (.i .i64 0)])), none⟩]) (.block 0 (.loop (.seq (.seq (.reg false [⟨some 12, .mov (.t 5),
  none⟩, ⟨some 13, .mov (.t 0), none⟩, ⟨some 14, .len (.t 13), none⟩, ⟨some 15, .bin .lss (.t 12) (.t 14), none⟩]) (.cond (.t 15) .skip (.exit 0))) (.seq
  (.block 1 (.seq (.reg false [⟨some 18, .mov (.t 0), none⟩, ⟨some 19, .mov (.t 5), none⟩, ⟨some 20, .ia 2 (.t 18) (.t 19), none⟩, ⟨some 21, .ld true 2 (.t 20),
  none⟩, ⟨some 22, .mov (.t 1), none⟩, ⟨some 23, .call 196 [.t 21, .t 22], none⟩, ⟨some 1, .mov (.t 23), none⟩]) (.seq (.reg false [⟨some 24, .mov (.t 1),
  none⟩, ⟨some 25, .bin .lss (.t 24) (.k (.v false [.c (.i .i64 0)])), none⟩]) (.cond (.t 25) (.seq (.reg false [⟨some 4, .mov (.k (.v false [.c (.i .i64
  (-1))])), none⟩]) .ret) .skip)))) (.reg false [⟨some 16, .mov (.t 5), none⟩, ⟨some 17, .bin .add (.t 16) (.k (.v false [.c (.i .i64 1)])), none⟩, ⟨some 5,
  .mov (.t 17), none⟩])))))) (.seq (.reg false [⟨some 26, .mov (.t 1), none⟩, ⟨some 4, .mov (.t 26), none⟩]) .ret))))
theorem hc_laws_szValueS : Try.f110.body.bind (comp Try.prog Try.f110.ntmps) = some ac_laws_szValueS := by kernel_rfl
theorem k_laws_szValueS (a : List GValue) (left : Int) (hpre : 0 ≤ left ∧ left ≤ 1048576) : SpecO Try.prog 110 [(false, [.sl false [.i .i64 0, .s []] (a.map GValue.cells)]), (false, [.i .i64 left])] [] (.one (false, [.i .i64 (szR left ((a.length + tots totValue a) : Nat))])) := by
  refine spec_of2 false false none Try.func110 hc_laws_szValueS (rvs := [.t 4]) (hΓ := mkCtx_ok (deep := false) (l := [(196, [], c_laws_szValue)]) ⟨c_laws_szValue_ok, trivial⟩) (h := ?_)
  intro hb hE
  simp only [go_sem] at hb
  unfold ac_laws_szValueS
  (first | refine AX_AW ?_ | skip); simp only [go_sem, reduceIte, reduceCtorEq, Nat.reduceEqDiff, Int.reduceToNat, Nat.reduceAdd, Nat.reduceLeDiff, Nat.reduceMul, Nat.reduceSub, Nat.reduceMod, Nat.reduceDiv, Nat.reduceLT, Nat.reduceBEq, List.reduceReplicate, ← and_assoc]; (repeat' first | apply CJ.mk | intro hc); all_goals try ((repeat' first | apply And.intro | intro hs) <;> (try simp only [go_sem, Bool.and_eq_false_iff] at hs) <;> omega)
  · all_goals ((repeat (simp (disch := omega) only [wsub] at *)) <;> (try simp only [szR, szR] at *) <;> (first | omega | (split <;> omega)))
  have hw := wsub (l := left) (n := a.length) (by omega) (by omega) (by omega) (by omega)
  rw [hw] at hc
  refine aw_loop2 false [] [0] [] [] (fun i : {i : Nat // i ≤ a.length ∧ (a.length : Int) + (tots totValue (a.take i) : Nat) ≤ left} => [(5, slV (.i .i64 i.1)), (1, slV (.i .i64 (left - a.length - (tots totValue (a.take i.1) : Nat))))]) (fun i => []) (fun i => []) (fun i => a.length - i.1) (⟨0, by simp only [List.take_zero, tots_nil]; omega⟩) _ rfl ?_ ?_
  · simp only [go_sem, reduceIte, reduceCtorEq, Nat.reduceEqDiff, Int.reduceToNat, Nat.reduceAdd, Nat.reduceLeDiff, Nat.reduceMul, Nat.reduceSub, Nat.reduceMod, Nat.reduceDiv, Nat.reduceLT, Nat.reduceBEq, List.reduceReplicate, ← and_assoc, hw]
    all_goals first | omega | ((repeat' apply And.intro) <;> first | omega | rfl | skip)
  intro S0 hS0 i
  simp only [go_sem, reduceIte, reduceCtorEq, Nat.reduceEqDiff, Int.reduceToNat, Nat.reduceAdd, Nat.reduceLeDiff, Nat.reduceMul, Nat.reduceSub, Nat.reduceMod, Nat.reduceDiv, Nat.reduceLT, Nat.reduceBEq, List.reduceReplicate, ← and_assoc, hw] at hS0
  obtain ⟨i, hi, ht⟩ := i
  (first | refine AX_AW ?_ | skip); simp only [go_sem, reduceIte, reduceCtorEq, Nat.reduceEqDiff, Int.reduceToNat, Nat.reduceAdd, Nat.reduceLeDiff, Nat.reduceMul, Nat.reduceSub, Nat.reduceMod, Nat.reduceDiv, Nat.reduceLT, Nat.reduceBEq, List.reduceReplicate, ← and_assoc, hw, hS0]; (repeat' first | apply CJ.mk | intro hc); all_goals try ((repeat' first | apply And.intro | intro hs) <;> (try simp only [go_sem, Bool.and_eq_false_iff] at hs) <;> omega)
  · have h1 := tots_take_succ totValue (default : GValue) (show i < a.length by omega)
    have h2 := tots_take_le totValue a (i + 1)
    all_goals ((repeat (simp (disch := omega) only [wsub] at *)) <;> (try simp only [szR, szR] at *) <;> (first | omega | (split <;> omega)))
  · have h1 := tots_take_succ totValue (default : GValue) (show i < a.length by omega)
    (refine lpK_n2 (⟨i + 1, by omega, by unfold szR at hc; split at hc <;> omega⟩) _ rfl ?_; simp only [go_sem, reduceIte, reduceCtorEq, Nat.reduceEqDiff, Int.reduceToNat, Nat.reduceAdd, Nat.reduceLeDiff, Nat.reduceMul, Nat.reduceSub, Nat.reduceMod, Nat.reduceDiv, Nat.reduceLT, Nat.reduceBEq, List.reduceReplicate, ← and_assoc, hw, hS0]; first | done | ((repeat' apply And.intro) <;> first | omega | (refine w64 ?_ ?_ ?_ <;> omega) | rfl | skip))
    rw [h1]
    unfold szR at hc ⊢
    split at hc <;> omega
  · have h1 := tots_all totValue (show ¬ i < a.length by omega)
    all_goals ((repeat (simp (disch := omega) only [wsub] at *)) <;> (try simp only [szR, szR] at *) <;> (first | omega | (split <;> omega)))
  all_goals all_goals ((repeat (simp (disch := omega) only [wsub] at *)) <;> (try simp only [szR, szR] at *) <;> (first | omega | (split <;> omega)))
noncomputable def c_laws_szValueS : List V → Option (Prop × List (Nat × V) × R) := famCt (α := (List GValue) × Int) (fun x => [(false, [.sl false [.i .i64 0, .s []] (x.1.map GValue.cells)]), (false, [.i .i64 x.2])]) (fun x => 0 ≤ x.2 ∧ x.2 ≤ 1048576) (fun x => []) (fun x => .one (false, [.i .i64 (szR x.2 ((x.1.length + tots totValue x.1) : Nat))]))
@[go_sem] theorem c_laws_szValueS_eq (a : List GValue) (left : Int) : c_laws_szValueS [(false, [.sl false [.i .i64 0, .s []] (a.map GValue.cells)]), (false, [.i .i64 left])] = some (0 ≤ left ∧ left ≤ 1048576, [], .one (false, [.i .i64 (szR left ((a.length + tots totValue a) : Nat))])) := famCt_eq (by rintro ⟨_, _⟩ ⟨_, _⟩ h; simp only [List.cons.injEq, Prod.mk.injEq, C.i.injEq, C.s.injEq, C.b.injEq, C.sl.injEq, C.p.injEq, C.mp.injEq, C.f.injEq, true_and, and_true, GValue_map_inj] at h; simp_all) (a, left)
theorem c_laws_szValueS_ok : ∀ vs q o r, c_laws_szValueS vs = some (q, o, r) → q → SpecO Try.prog 110 vs o r := famCt_ok (fun x h => k_laws_szValueS x.1 x.2 h)
def ac_laws_szRow : ACode := .seq (.reg false [⟨some 2, .box 1 (.t 0), none⟩, ⟨some 4, .mov (.k (.v false [.c (.i .i64 0)])), none⟩]) (.seq (.reg false [⟨some 5, .fa 0 (.t 2), none⟩, ⟨some
  6, .ld false 1 (.t 5), none⟩, ⟨some 7, .mov (.t 1), none⟩, ⟨some 8, .call 110 [.t 6, .t 7], none⟩, ⟨some 1, .mov (.t 8), none⟩]) (.seq (.seq (.reg false
  [⟨some 9, .mov (.t 1), none⟩, ⟨some 10, .bin .lss (.t 9) (.k (.v false [.c (.i .i64 0)])), none⟩]) (.cond (.t 10) (.seq (.reg false [⟨some 4, .mov (.k (.v
  false [.c (.i .i64 (-1))])), none⟩]) .ret) .skip)) (.seq (.reg false [⟨some 11, .mov (.t 1), none⟩, ⟨some 4, .mov (.t 11), none⟩]) .ret)))
theorem hc_laws_szRow : Try.f35.body.bind (comp Try.prog Try.f35.ntmps) = some ac_laws_szRow := by kernel_rfl
theorem k_laws_szRow (a : GRow) (left : Int) (hpre : 0 ≤ left ∧ left ≤ 1048576) : SpecO Try.prog 35 [(true, [.sl false [.i .i64 0, .s []] (a.V.map GValue.cells)]), (false, [.i .i64 left])] [] (.one (false, [.i .i64 (szR left (totRow a : Nat))])) := by
  refine spec_of2 false false none Try.func35 hc_laws_szRow (rvs := [.t 4]) (hΓ := mkCtx_ok (deep := false) (l := [(110, [], c_laws_szValueS)]) ⟨c_laws_szValueS_ok, trivial⟩) (h := ?_)
  intro hb hE
  simp only [go_sem] at hb
  unfold ac_laws_szRow
  (first | refine AX_AW ?_ | skip); simp only [go_sem, reduceIte, reduceCtorEq, Nat.reduceEqDiff, Int.reduceToNat, Nat.reduceAdd, Nat.reduceLeDiff, Nat.reduceMul, Nat.reduceSub, Nat.reduceMod, Nat.reduceDiv, Nat.reduceLT, Nat.reduceBEq, List.reduceReplicate, ← and_assoc]; (repeat' first | apply CJ.mk | intro hc); all_goals try ((repeat' first | apply And.intro | intro hs) <;> (try simp only [go_sem, Bool.and_eq_false_iff] at hs) <;> omega)
  all_goals ((repeat (simp (disch := omega) only [wsub] at *)) <;> (try simp only [szR, totRow] at *) <;> (first | omega | (split <;> omega)))
noncomputable def c_laws_szRow : List V → Option (Prop × List (Nat × V) × R) := famCt (α := GRow × Int) (fun x => [(true, [.sl false [.i .i64 0, .s []] (x.1.V.map GValue.cells)]), (false, [.i .i64 x.2])]) (fun x => 0 ≤ x.2 ∧ x.2 ≤ 1048576) (fun x => []) (fun x => .one (false, [.i .i64 (szR x.2 (totRow x.1 : Nat))]))
@[go_sem] theorem c_laws_szRow_eq (a_V : List GValue) (left : Int) : c_laws_szRow [(true, [.sl false [.i .i64 0, .s []] (a_V.map GValue.cells)]), (false, [.i .i64 left])] = some (0 ≤ left ∧ left ≤ 1048576, [], .one (false, [.i .i64 (szR left (totRow (GRow.mk a_V) : Nat))])) := famCt_eq (by rintro ⟨⟨_⟩, _⟩ ⟨⟨_⟩, _⟩ h; simp only [List.cons.injEq, Prod.mk.injEq, C.i.injEq, C.s.injEq, C.b.injEq, C.sl.injEq, C.p.injEq, C.mp.injEq, C.f.injEq, true_and, and_true, GValue_map_inj] at h; simp_all) ((GRow.mk a_V), left)
theorem c_laws_szRow_ok : ∀ vs q o r, c_laws_szRow vs = some (q, o, r) → q → SpecO Try.prog 35 vs o r := famCt_ok (fun x h => k_laws_szRow x.1 x.2 h)
def ac_laws_szRowS : ACode := .seq (.reg false [⟨some 4, .mov (.k (.v false [.c (.i .i64 0)])), none⟩]) (.seq (.reg false [⟨some 6, .mov (.t 1), none⟩, ⟨some 7, .mov (.t 0), none⟩, ⟨some 8,
  .len (.t 7), none⟩, ⟨some 9, .bin .sub (.t 6) (.t 8), none⟩, ⟨some 1, .mov (.t 9), none⟩]) (.seq (.seq (.reg false [⟨some 10, .mov (.t 1), none⟩, ⟨some 11,
  .bin .lss (.t 10) (.k (.v false [.c (.i .i64 0)])), none⟩]) (.cond (.t 11) (.seq (.reg false [⟨some 4, .mov (.k (.v false [.c (.i .i64 (-1))])), none⟩]) .ret)
  .skip)) (.seq (.seq (.reg false [⟨some 5, .mov (.k (.v false [.c (.i .i64 0)])), none⟩]) (.block 0 (.loop (.seq (.seq (.reg false [⟨some 12, .mov (.t 5),
  none⟩, ⟨some 13, .mov (.t 0), none⟩, ⟨some 14, .len (.t 13), none⟩, ⟨some 15, .bin .lss (.t 12) (.t 14), none⟩]) (.cond (.t 15) .skip (.exit 0))) (.seq
  (.block 1 (.seq (.reg false [⟨some 18, .mov (.t 0), none⟩, ⟨some 19, .mov (.t 5), none⟩, ⟨some 20, .ia 1 (.t 18) (.t 19), none⟩, ⟨some 21, .ld true 1 (.t 20),
  none⟩, ⟨some 22, .mov (.t 1), none⟩, ⟨some 23, .call 35 [.t 21, .t 22], none⟩, ⟨some 1, .mov (.t 23), none⟩]) (.seq (.reg false [⟨some 24, .mov (.t 1), none⟩,
  ⟨some 25, .bin .lss (.t 24) (.k (.v false [.c (.i .i64 0)])), none⟩]) (.cond (.t 25) (.seq (.reg false [⟨some 4, .mov (.k (.v false [.c (.i .i64 (-1))])),
  none⟩]) .ret) .skip)))) (.reg false [⟨some 16, .mov (.t 5), none⟩, ⟨some 17, .bin .add (.t 16) (.k (.v false [.c (.i .i64 1)])), none⟩, ⟨some 5, .mov (.t 17),
  none⟩])))))) (.seq (.reg false [⟨some 26, .mov (.t 1), none⟩, ⟨some 4, .mov (.t 26), none⟩]) .ret))))
theorem hc_laws_szRowS : Try.f288.body.bind (comp Try.prog Try.f288.ntmps) = some ac_laws_szRowS := by kernel_rfl
theorem k_laws_szRowS (a : List GRow) (left : Int) (hpre : 0 ≤ left ∧ left ≤ 1048576) : SpecO Try.prog 288 [(false, [.sl false [.sl false [.i .i64 0, .s []] []] (a.map (GRow.cells false false))]), (false, [.i .i64 left])] [] (.one (false, [.i .i64 (szR left ((a.length + tots totRow a) : Nat))])) := by
  refine spec_of2 false false none Try.func288 hc_laws_szRowS (rvs := [.t 4]) (hΓ := mkCtx_ok (deep := false) (l := [(35, [], c_laws_szRow)]) ⟨c_laws_szRow_ok, trivial⟩) (h := ?_)
  intro hb hE
  simp only [go_sem] at hb
  unfold ac_laws_szRowS
  (first | refine AX_AW ?_ | skip); simp only [go_sem, reduceIte, reduceCtorEq, Nat.reduceEqDiff, Int.reduceToNat, Nat.reduceAdd, Nat.reduceLeDiff, Nat.reduceMul, Nat.reduceSub, Nat.reduceMod, Nat.reduceDiv, Nat.reduceLT, Nat.reduceBEq, List.reduceReplicate, ← and_assoc]; (repeat' first | apply CJ.mk | intro hc); all_goals try ((repeat' first | apply And.intro | intro hs) <;> (try simp only [go_sem, Bool.and_eq_false_iff] at hs) <;> omega)
  · all_goals ((repeat (simp (disch := omega) only [wsub] at *)) <;> (try simp only [szR, szR] at *) <;> (first | omega | (split <;> omega)))
  have hw := wsub (l := left) (n := a.length) (by omega) (by omega) (by omega) (by omega)
  rw [hw] at hc
  refine aw_loop2 false [] [0] [] [] (fun i : {i : Nat // i ≤ a.length ∧ (a.length : Int) + (tots totRow (a.take i) : Nat) ≤ left} => [(5, slV (.i .i64 i.1)), (1, slV (.i .i64 (left - a.length - (tots totRow (a.take i.1) : Nat))))]) (fun i => []) (fun i => []) (fun i => a.length - i.1) (⟨0, by simp only [List.take_zero, tots_nil]; omega⟩) _ rfl ?_ ?_
  · simp only [go_sem, reduceIte, reduceCtorEq, Nat.reduceEqDiff, Int.reduceToNat, Nat.reduceAdd, Nat.reduceLeDiff, Nat.reduceMul, Nat.reduceSub, Nat.reduceMod, Nat.reduceDiv, Nat.reduceLT, Nat.reduceBEq, List.reduceReplicate, ← and_assoc, hw]
    all_goals first | omega | ((repeat' apply And.intro) <;> first | omega | rfl | skip)
  intro S0 hS0 i
  simp only [go_sem, reduceIte, reduceCtorEq, Nat.reduceEqDiff, Int.reduceToNat, Nat.reduceAdd, Nat.reduceLeDiff, Nat.reduceMul, Nat.reduceSub, Nat.reduceMod, Nat.reduceDiv, Nat.reduceLT, Nat.reduceBEq, List.reduceReplicate, ← and_assoc, hw] at hS0
  obtain ⟨i, hi, ht⟩ := i
  (first | refine AX_AW ?_ | skip); simp only [go_sem, reduceIte, reduceCtorEq, Nat.reduceEqDiff, Int.reduceToNat, Nat.reduceAdd, Nat.reduceLeDiff, Nat.reduceMul, Nat.reduceSub, Nat.reduceMod, Nat.reduceDiv, Nat.reduceLT, Nat.reduceBEq, List.reduceReplicate, ← and_assoc, hw, hS0]; (repeat' first | apply CJ.mk | intro hc); all_goals try ((repeat' first | apply And.intro | intro hs) <;> (try simp only [go_sem, Bool.and_eq_false_iff] at hs) <;> omega)
  · have h1 := tots_take_succ totRow (default : GRow) (show i < a.length by omega)
    have h2 := tots_take_le totRow a (i + 1)
    all_goals ((repeat (simp (disch := omega) only [wsub] at *)) <;> (try simp only [szR, szR] at *) <;> (first | omega | (split <;> omega)))
  · have h1 := tots_take_succ totRow (default : GRow) (show i < a.length by omega)
    (refine lpK_n2 (⟨i + 1, by omega, by unfold szR at hc; split at hc <;> omega⟩) _ rfl ?_; simp only [go_sem, reduceIte, reduceCtorEq, Nat.reduceEqDiff, Int.reduceToNat, Nat.reduceAdd, Nat.reduceLeDiff, Nat.reduceMul, Nat.reduceSub, Nat.reduceMod, Nat.reduceDiv, Nat.reduceLT, Nat.reduceBEq, List.reduceReplicate, ← and_assoc, hw, hS0]; first | done | ((repeat' apply And.intro) <;> first | omega | (refine w64 ?_ ?_ ?_ <;> omega) | rfl | skip))
    rw [h1]
    unfold szR at hc ⊢
    split at hc <;> omega
  · have h1 := tots_all totRow (show ¬ i < a.length by omega)
    all_goals ((repeat (simp (disch := omega) only [wsub] at *)) <;> (try simp only [szR, szR] at *) <;> (first | omega | (split <;> omega)))
  all_goals all_goals ((repeat (simp (disch := omega) only [wsub] at *)) <;> (try simp only [szR, szR] at *) <;> (first | omega | (split <;> omega)))
noncomputable def c_laws_szRowS : List V → Option (Prop × List (Nat × V) × R) := famCt (α := (List GRow) × Int) (fun x => [(false, [.sl false [.sl false [.i .i64 0, .s []] []] (x.1.map (GRow.cells false false))]), (false, [.i .i64 x.2])]) (fun x => 0 ≤ x.2 ∧ x.2 ≤ 1048576) (fun x => []) (fun x => .one (false, [.i .i64 (szR x.2 ((x.1.length + tots totRow x.1) : Nat))]))
@[go_sem] theorem c_laws_szRowS_eq (a : List GRow) (left : Int) : c_laws_szRowS [(false, [.sl false [.sl false [.i .i64 0, .s []] []] (a.map (GRow.cells false false))]), (false, [.i .i64 left])] = some (0 ≤ left ∧ left ≤ 1048576, [], .one (false, [.i .i64 (szR left ((a.length + tots totRow a) : Nat))])) := famCt_eq (by rintro ⟨_, _⟩ ⟨_, _⟩ h; simp only [List.cons.injEq, Prod.mk.injEq, C.i.injEq, C.s.injEq, C.b.injEq, C.sl.injEq, C.p.injEq, C.mp.injEq, C.f.injEq, true_and, and_true, GRow_map_inj] at h; simp_all) (a, left)
theorem c_laws_szRowS_ok : ∀ vs q o r, c_laws_szRowS vs = some (q, o, r) → q → SpecO Try.prog 288 vs o r := famCt_ok (fun x h => k_laws_szRowS x.1 x.2 h)
def ac_laws_szRel : ACode := .seq (.reg false [⟨some 2, .box 2 (.t 0), none⟩, ⟨some 4, .mov (.k (.v false [.c (.i .i64 0)])), none⟩]) (.seq (.reg false [⟨some 5, .fa 1 (.t 2), none⟩, ⟨some
  6, .ld false 1 (.t 5), none⟩, ⟨some 7, .mov (.t 1), none⟩, ⟨some 8, .call 288 [.t 6, .t 7], none⟩, ⟨some 1, .mov (.t 8), none⟩]) (.seq (.seq (.reg false
  [⟨some 9, .mov (.t 1), none⟩, ⟨some 10, .bin .lss (.t 9) (.k (.v false [.c (.i .i64 0)])), none⟩]) (.cond (.t 10) (.seq (.reg false [⟨some 4, .mov (.k (.v
  false [.c (.i .i64 (-1))])), none⟩]) .ret) .skip)) (.seq (.reg false [⟨some 11, .mov (.t 1), none⟩, ⟨some 4, .mov (.t 11), none⟩]) .ret)))
theorem hc_laws_szRel : Try.f266.body.bind (comp Try.prog Try.f266.ntmps) = some ac_laws_szRel := by kernel_rfl
theorem k_laws_szRel (a : GRel) (left : Int) (hpre : 0 ≤ left ∧ left ≤ 1048576) : SpecO Try.prog 266 [(true, [.i .i64 a.Arity, .sl false [.sl false [.i .i64 0, .s []] []] (a.Rows.map (GRow.cells false false))]), (false, [.i .i64 left])] [] (.one (false, [.i .i64 (szR left (totRel a : Nat))])) := by
  refine spec_of2 false false none Try.func266 hc_laws_szRel (rvs := [.t 4]) (hΓ := mkCtx_ok (deep := false) (l := [(288, [], c_laws_szRowS)]) ⟨c_laws_szRowS_ok, trivial⟩) (h := ?_)
  intro hb hE
  simp only [go_sem] at hb
  unfold ac_laws_szRel
  (first | refine AX_AW ?_ | skip); simp only [go_sem, reduceIte, reduceCtorEq, Nat.reduceEqDiff, Int.reduceToNat, Nat.reduceAdd, Nat.reduceLeDiff, Nat.reduceMul, Nat.reduceSub, Nat.reduceMod, Nat.reduceDiv, Nat.reduceLT, Nat.reduceBEq, List.reduceReplicate, ← and_assoc]; (repeat' first | apply CJ.mk | intro hc); all_goals try ((repeat' first | apply And.intro | intro hs) <;> (try simp only [go_sem, Bool.and_eq_false_iff] at hs) <;> omega)
  all_goals ((repeat (simp (disch := omega) only [wsub] at *)) <;> (try simp only [szR, totRel] at *) <;> (first | omega | (split <;> omega)))
noncomputable def c_laws_szRel : List V → Option (Prop × List (Nat × V) × R) := famCt (α := GRel × Int) (fun x => [(true, [.i .i64 x.1.Arity, .sl false [.sl false [.i .i64 0, .s []] []] (x.1.Rows.map (GRow.cells false false))]), (false, [.i .i64 x.2])]) (fun x => 0 ≤ x.2 ∧ x.2 ≤ 1048576) (fun x => []) (fun x => .one (false, [.i .i64 (szR x.2 (totRel x.1 : Nat))]))
@[go_sem] theorem c_laws_szRel_eq (a_Arity : Int) (a_Rows : List GRow) (left : Int) : c_laws_szRel [(true, [.i .i64 a_Arity, .sl false [.sl false [.i .i64 0, .s []] []] (a_Rows.map (GRow.cells false false))]), (false, [.i .i64 left])] = some (0 ≤ left ∧ left ≤ 1048576, [], .one (false, [.i .i64 (szR left (totRel (GRel.mk a_Arity a_Rows) : Nat))])) := famCt_eq (by rintro ⟨⟨_, _⟩, _⟩ ⟨⟨_, _⟩, _⟩ h; simp only [List.cons.injEq, Prod.mk.injEq, C.i.injEq, C.s.injEq, C.b.injEq, C.sl.injEq, C.p.injEq, C.mp.injEq, C.f.injEq, true_and, and_true, GRow_map_inj] at h; simp_all) ((GRel.mk a_Arity a_Rows), left)
theorem c_laws_szRel_ok : ∀ vs q o r, c_laws_szRel vs = some (q, o, r) → q → SpecO Try.prog 266 vs o r := famCt_ok (fun x h => k_laws_szRel x.1 x.2 h)
def ac_laws_szNamed : ACode := .seq (.reg false [⟨some 2, .box 3 (.t 0), none⟩, ⟨some 4, .mov (.k (.v false [.c (.i .i64 0)])), none⟩]) (.seq (.reg false [⟨some 5, .mov (.t 1), none⟩, ⟨some
  6, .fa 0 (.t 2), none⟩, ⟨some 7, .ld false 1 (.t 6), none⟩, ⟨some 8, .lens (.t 7), none⟩, ⟨some 9, .bin .sub (.t 5) (.t 8), none⟩, ⟨some 1, .mov (.t 9),
  none⟩]) (.seq (.seq (.reg false [⟨some 10, .mov (.t 1), none⟩, ⟨some 11, .bin .lss (.t 10) (.k (.v false [.c (.i .i64 0)])), none⟩]) (.cond (.t 11) (.seq
  (.reg false [⟨some 4, .mov (.k (.v false [.c (.i .i64 (-1))])), none⟩]) .ret) .skip)) (.seq (.reg false [⟨some 12, .fa 1 (.t 2), none⟩, ⟨some 13, .ld true 2
  (.t 12), none⟩, ⟨some 14, .mov (.t 1), none⟩, ⟨some 15, .call 266 [.t 13, .t 14], none⟩, ⟨some 1, .mov (.t 15), none⟩]) (.seq (.seq (.reg false [⟨some 16,
  .mov (.t 1), none⟩, ⟨some 17, .bin .lss (.t 16) (.k (.v false [.c (.i .i64 0)])), none⟩]) (.cond (.t 17) (.seq (.reg false [⟨some 4, .mov (.k (.v false [.c
  (.i .i64 (-1))])), none⟩]) .ret) .skip)) (.seq (.reg false [⟨some 18, .mov (.t 1), none⟩, ⟨some 4, .mov (.t 18), none⟩]) .ret)))))
theorem hc_laws_szNamed : Try.f201.body.bind (comp Try.prog Try.f201.ntmps) = some ac_laws_szNamed := by kernel_rfl
theorem k_laws_szNamed (a : GNamed) (left : Int) (hpre : 0 ≤ left ∧ left ≤ 1048576) : SpecO Try.prog 201 [(true, [.s a.Name, .i .i64 a.Rel.Arity, .sl false [.sl false [.i .i64 0, .s []] []] (a.Rel.Rows.map (GRow.cells false false))]), (false, [.i .i64 left])] [] (.one (false, [.i .i64 (szR left (totNamed a : Nat))])) := by
  refine spec_of2 false false none Try.func201 hc_laws_szNamed (rvs := [.t 4]) (hΓ := mkCtx_ok (deep := false) (l := [(266, [], c_laws_szRel)]) ⟨c_laws_szRel_ok, trivial⟩) (h := ?_)
  intro hb hE
  simp only [go_sem] at hb
  unfold ac_laws_szNamed
  (first | refine AX_AW ?_ | skip); simp only [go_sem, reduceIte, reduceCtorEq, Nat.reduceEqDiff, Int.reduceToNat, Nat.reduceAdd, Nat.reduceLeDiff, Nat.reduceMul, Nat.reduceSub, Nat.reduceMod, Nat.reduceDiv, Nat.reduceLT, Nat.reduceBEq, List.reduceReplicate, ← and_assoc]; (repeat' first | apply CJ.mk | intro hc); all_goals try ((repeat' first | apply And.intro | intro hs) <;> (try simp only [go_sem, Bool.and_eq_false_iff] at hs) <;> omega)
  all_goals ((repeat (simp (disch := omega) only [wsub] at *)) <;> (try simp only [szR, totNamed] at *) <;> (first | omega | (split <;> omega)))
noncomputable def c_laws_szNamed : List V → Option (Prop × List (Nat × V) × R) := famCt (α := GNamed × Int) (fun x => [(true, [.s x.1.Name, .i .i64 x.1.Rel.Arity, .sl false [.sl false [.i .i64 0, .s []] []] (x.1.Rel.Rows.map (GRow.cells false false))]), (false, [.i .i64 x.2])]) (fun x => 0 ≤ x.2 ∧ x.2 ≤ 1048576) (fun x => []) (fun x => .one (false, [.i .i64 (szR x.2 (totNamed x.1 : Nat))]))
@[go_sem] theorem c_laws_szNamed_eq (a_Name : List UInt8) (a_Rel_Arity : Int) (a_Rel_Rows : List GRow) (left : Int) : c_laws_szNamed [(true, [.s a_Name, .i .i64 a_Rel_Arity, .sl false [.sl false [.i .i64 0, .s []] []] (a_Rel_Rows.map (GRow.cells false false))]), (false, [.i .i64 left])] = some (0 ≤ left ∧ left ≤ 1048576, [], .one (false, [.i .i64 (szR left (totNamed (GNamed.mk a_Name (GRel.mk a_Rel_Arity a_Rel_Rows)) : Nat))])) := famCt_eq (by rintro ⟨⟨_, ⟨_, _⟩⟩, _⟩ ⟨⟨_, ⟨_, _⟩⟩, _⟩ h; simp only [List.cons.injEq, Prod.mk.injEq, C.i.injEq, C.s.injEq, C.b.injEq, C.sl.injEq, C.p.injEq, C.mp.injEq, C.f.injEq, true_and, and_true, GRow_map_inj] at h; simp_all) ((GNamed.mk a_Name (GRel.mk a_Rel_Arity a_Rel_Rows)), left)
theorem c_laws_szNamed_ok : ∀ vs q o r, c_laws_szNamed vs = some (q, o, r) → q → SpecO Try.prog 201 vs o r := famCt_ok (fun x h => k_laws_szNamed x.1 x.2 h)
def ac_laws_szNamedS : ACode := .seq (.reg false [⟨some 4, .mov (.k (.v false [.c (.i .i64 0)])), none⟩]) (.seq (.reg false [⟨some 6, .mov (.t 1), none⟩, ⟨some 7, .mov (.t 0), none⟩, ⟨some 8,
  .len (.t 7), none⟩, ⟨some 9, .bin .sub (.t 6) (.t 8), none⟩, ⟨some 1, .mov (.t 9), none⟩]) (.seq (.seq (.reg false [⟨some 10, .mov (.t 1), none⟩, ⟨some 11,
  .bin .lss (.t 10) (.k (.v false [.c (.i .i64 0)])), none⟩]) (.cond (.t 11) (.seq (.reg false [⟨some 4, .mov (.k (.v false [.c (.i .i64 (-1))])), none⟩]) .ret)
  .skip)) (.seq (.seq (.reg false [⟨some 5, .mov (.k (.v false [.c (.i .i64 0)])), none⟩]) (.block 0 (.loop (.seq (.seq (.reg false [⟨some 12, .mov (.t 5),
  none⟩, ⟨some 13, .mov (.t 0), none⟩, ⟨some 14, .len (.t 13), none⟩, ⟨some 15, .bin .lss (.t 12) (.t 14), none⟩]) (.cond (.t 15) .skip (.exit 0))) (.seq
  (.block 1 (.seq (.reg false [⟨some 18, .mov (.t 0), none⟩, ⟨some 19, .mov (.t 5), none⟩, ⟨some 20, .ia 3 (.t 18) (.t 19), none⟩, ⟨some 21, .ld true 3 (.t 20),
  none⟩, ⟨some 22, .mov (.t 1), none⟩, ⟨some 23, .call 201 [.t 21, .t 22], none⟩, ⟨some 1, .mov (.t 23), none⟩]) (.seq (.reg false [⟨some 24, .mov (.t 1),
  none⟩, ⟨some 25, .bin .lss (.t 24) (.k (.v false [.c (.i .i64 0)])), none⟩]) (.cond (.t 25) (.seq (.reg false [⟨some 4, .mov (.k (.v false [.c (.i .i64
  (-1))])), none⟩]) .ret) .skip)))) (.reg false [⟨some 16, .mov (.t 5), none⟩, ⟨some 17, .bin .add (.t 16) (.k (.v false [.c (.i .i64 1)])), none⟩, ⟨some 5,
  .mov (.t 17), none⟩])))))) (.seq (.reg false [⟨some 26, .mov (.t 1), none⟩, ⟨some 4, .mov (.t 26), none⟩]) .ret))))
theorem hc_laws_szNamedS : Try.f121.body.bind (comp Try.prog Try.f121.ntmps) = some ac_laws_szNamedS := by kernel_rfl
theorem k_laws_szNamedS (a : List GNamed) (left : Int) (hpre : 0 ≤ left ∧ left ≤ 1048576) : SpecO Try.prog 121 [(false, [.sl false [.s [], .i .i64 0, .sl false [.sl false [.i .i64 0, .s []] []] []] (a.map (GNamed.cells false false))]), (false, [.i .i64 left])] [] (.one (false, [.i .i64 (szR left ((a.length + tots totNamed a) : Nat))])) := by
  refine spec_of2 false false none Try.func121 hc_laws_szNamedS (rvs := [.t 4]) (hΓ := mkCtx_ok (deep := false) (l := [(201, [], c_laws_szNamed)]) ⟨c_laws_szNamed_ok, trivial⟩) (h := ?_)
  intro hb hE
  simp only [go_sem] at hb
  unfold ac_laws_szNamedS
  (first | refine AX_AW ?_ | skip); simp only [go_sem, reduceIte, reduceCtorEq, Nat.reduceEqDiff, Int.reduceToNat, Nat.reduceAdd, Nat.reduceLeDiff, Nat.reduceMul, Nat.reduceSub, Nat.reduceMod, Nat.reduceDiv, Nat.reduceLT, Nat.reduceBEq, List.reduceReplicate, ← and_assoc]; (repeat' first | apply CJ.mk | intro hc); all_goals try ((repeat' first | apply And.intro | intro hs) <;> (try simp only [go_sem, Bool.and_eq_false_iff] at hs) <;> omega)
  · all_goals ((repeat (simp (disch := omega) only [wsub] at *)) <;> (try simp only [szR, szR] at *) <;> (first | omega | (split <;> omega)))
  have hw := wsub (l := left) (n := a.length) (by omega) (by omega) (by omega) (by omega)
  rw [hw] at hc
  refine aw_loop2 false [] [0] [] [] (fun i : {i : Nat // i ≤ a.length ∧ (a.length : Int) + (tots totNamed (a.take i) : Nat) ≤ left} => [(5, slV (.i .i64 i.1)), (1, slV (.i .i64 (left - a.length - (tots totNamed (a.take i.1) : Nat))))]) (fun i => []) (fun i => []) (fun i => a.length - i.1) (⟨0, by simp only [List.take_zero, tots_nil]; omega⟩) _ rfl ?_ ?_
  · simp only [go_sem, reduceIte, reduceCtorEq, Nat.reduceEqDiff, Int.reduceToNat, Nat.reduceAdd, Nat.reduceLeDiff, Nat.reduceMul, Nat.reduceSub, Nat.reduceMod, Nat.reduceDiv, Nat.reduceLT, Nat.reduceBEq, List.reduceReplicate, ← and_assoc, hw]
    all_goals first | omega | ((repeat' apply And.intro) <;> first | omega | rfl | skip)
  intro S0 hS0 i
  simp only [go_sem, reduceIte, reduceCtorEq, Nat.reduceEqDiff, Int.reduceToNat, Nat.reduceAdd, Nat.reduceLeDiff, Nat.reduceMul, Nat.reduceSub, Nat.reduceMod, Nat.reduceDiv, Nat.reduceLT, Nat.reduceBEq, List.reduceReplicate, ← and_assoc, hw] at hS0
  obtain ⟨i, hi, ht⟩ := i
  (first | refine AX_AW ?_ | skip); simp only [go_sem, reduceIte, reduceCtorEq, Nat.reduceEqDiff, Int.reduceToNat, Nat.reduceAdd, Nat.reduceLeDiff, Nat.reduceMul, Nat.reduceSub, Nat.reduceMod, Nat.reduceDiv, Nat.reduceLT, Nat.reduceBEq, List.reduceReplicate, ← and_assoc, hw, hS0]; (repeat' first | apply CJ.mk | intro hc); all_goals try ((repeat' first | apply And.intro | intro hs) <;> (try simp only [go_sem, Bool.and_eq_false_iff] at hs) <;> omega)
  · have h1 := tots_take_succ totNamed (default : GNamed) (show i < a.length by omega)
    have h2 := tots_take_le totNamed a (i + 1)
    all_goals ((repeat (simp (disch := omega) only [wsub] at *)) <;> (try simp only [szR, szR] at *) <;> (first | omega | (split <;> omega)))
  · have h1 := tots_take_succ totNamed (default : GNamed) (show i < a.length by omega)
    (refine lpK_n2 (⟨i + 1, by omega, by unfold szR at hc; split at hc <;> omega⟩) _ rfl ?_; simp only [go_sem, reduceIte, reduceCtorEq, Nat.reduceEqDiff, Int.reduceToNat, Nat.reduceAdd, Nat.reduceLeDiff, Nat.reduceMul, Nat.reduceSub, Nat.reduceMod, Nat.reduceDiv, Nat.reduceLT, Nat.reduceBEq, List.reduceReplicate, ← and_assoc, hw, hS0]; first | done | ((repeat' apply And.intro) <;> first | omega | (refine w64 ?_ ?_ ?_ <;> omega) | rfl | skip))
    rw [h1]
    unfold szR at hc ⊢
    split at hc <;> omega
  · have h1 := tots_all totNamed (show ¬ i < a.length by omega)
    all_goals ((repeat (simp (disch := omega) only [wsub] at *)) <;> (try simp only [szR, szR] at *) <;> (first | omega | (split <;> omega)))
  all_goals all_goals ((repeat (simp (disch := omega) only [wsub] at *)) <;> (try simp only [szR, szR] at *) <;> (first | omega | (split <;> omega)))
noncomputable def c_laws_szNamedS : List V → Option (Prop × List (Nat × V) × R) := famCt (α := (List GNamed) × Int) (fun x => [(false, [.sl false [.s [], .i .i64 0, .sl false [.sl false [.i .i64 0, .s []] []] []] (x.1.map (GNamed.cells false false))]), (false, [.i .i64 x.2])]) (fun x => 0 ≤ x.2 ∧ x.2 ≤ 1048576) (fun x => []) (fun x => .one (false, [.i .i64 (szR x.2 ((x.1.length + tots totNamed x.1) : Nat))]))
@[go_sem] theorem c_laws_szNamedS_eq (a : List GNamed) (left : Int) : c_laws_szNamedS [(false, [.sl false [.s [], .i .i64 0, .sl false [.sl false [.i .i64 0, .s []] []] []] (a.map (GNamed.cells false false))]), (false, [.i .i64 left])] = some (0 ≤ left ∧ left ≤ 1048576, [], .one (false, [.i .i64 (szR left ((a.length + tots totNamed a) : Nat))])) := famCt_eq (by rintro ⟨_, _⟩ ⟨_, _⟩ h; simp only [List.cons.injEq, Prod.mk.injEq, C.i.injEq, C.s.injEq, C.b.injEq, C.sl.injEq, C.p.injEq, C.mp.injEq, C.f.injEq, true_and, and_true, GNamed_map_inj] at h; simp_all) (a, left)
theorem c_laws_szNamedS_ok : ∀ vs q o r, c_laws_szNamedS vs = some (q, o, r) → q → SpecO Try.prog 121 vs o r := famCt_ok (fun x h => k_laws_szNamedS x.1 x.2 h)
def ac_laws_szStore : ACode := .seq (.reg false [⟨some 2, .box 1 (.t 0), none⟩, ⟨some 4, .mov (.k (.v false [.c (.i .i64 0)])), none⟩]) (.seq (.reg false [⟨some 5, .fa 0 (.t 2), none⟩, ⟨some
  6, .ld false 1 (.t 5), none⟩, ⟨some 7, .mov (.t 1), none⟩, ⟨some 8, .call 121 [.t 6, .t 7], none⟩, ⟨some 1, .mov (.t 8), none⟩]) (.seq (.seq (.reg false
  [⟨some 9, .mov (.t 1), none⟩, ⟨some 10, .bin .lss (.t 9) (.k (.v false [.c (.i .i64 0)])), none⟩]) (.cond (.t 10) (.seq (.reg false [⟨some 4, .mov (.k (.v
  false [.c (.i .i64 (-1))])), none⟩]) .ret) .skip)) (.seq (.reg false [⟨some 11, .mov (.t 1), none⟩, ⟨some 4, .mov (.t 11), none⟩]) .ret)))
theorem hc_laws_szStore : Try.f46.body.bind (comp Try.prog Try.f46.ntmps) = some ac_laws_szStore := by kernel_rfl
theorem k_laws_szStore (a : GStore) (left : Int) (hpre : 0 ≤ left ∧ left ≤ 1048576) : SpecO Try.prog 46 [(true, [.sl false [.s [], .i .i64 0, .sl false [.sl false [.i .i64 0, .s []] []] []] (a.Rels.map (GNamed.cells false false))]), (false, [.i .i64 left])] [] (.one (false, [.i .i64 (szR left (totStore a : Nat))])) := by
  refine spec_of2 false false none Try.func46 hc_laws_szStore (rvs := [.t 4]) (hΓ := mkCtx_ok (deep := false) (l := [(121, [], c_laws_szNamedS)]) ⟨c_laws_szNamedS_ok, trivial⟩) (h := ?_)
  intro hb hE
  simp only [go_sem] at hb
  unfold ac_laws_szStore
  (first | refine AX_AW ?_ | skip); simp only [go_sem, reduceIte, reduceCtorEq, Nat.reduceEqDiff, Int.reduceToNat, Nat.reduceAdd, Nat.reduceLeDiff, Nat.reduceMul, Nat.reduceSub, Nat.reduceMod, Nat.reduceDiv, Nat.reduceLT, Nat.reduceBEq, List.reduceReplicate, ← and_assoc]; (repeat' first | apply CJ.mk | intro hc); all_goals try ((repeat' first | apply And.intro | intro hs) <;> (try simp only [go_sem, Bool.and_eq_false_iff] at hs) <;> omega)
  all_goals ((repeat (simp (disch := omega) only [wsub] at *)) <;> (try simp only [szR, totStore] at *) <;> (first | omega | (split <;> omega)))
noncomputable def c_laws_szStore : List V → Option (Prop × List (Nat × V) × R) := famCt (α := GStore × Int) (fun x => [(true, [.sl false [.s [], .i .i64 0, .sl false [.sl false [.i .i64 0, .s []] []] []] (x.1.Rels.map (GNamed.cells false false))]), (false, [.i .i64 x.2])]) (fun x => 0 ≤ x.2 ∧ x.2 ≤ 1048576) (fun x => []) (fun x => .one (false, [.i .i64 (szR x.2 (totStore x.1 : Nat))]))
@[go_sem] theorem c_laws_szStore_eq (a_Rels : List GNamed) (left : Int) : c_laws_szStore [(true, [.sl false [.s [], .i .i64 0, .sl false [.sl false [.i .i64 0, .s []] []] []] (a_Rels.map (GNamed.cells false false))]), (false, [.i .i64 left])] = some (0 ≤ left ∧ left ≤ 1048576, [], .one (false, [.i .i64 (szR left (totStore (GStore.mk a_Rels) : Nat))])) := famCt_eq (by rintro ⟨⟨_⟩, _⟩ ⟨⟨_⟩, _⟩ h; simp only [List.cons.injEq, Prod.mk.injEq, C.i.injEq, C.s.injEq, C.b.injEq, C.sl.injEq, C.p.injEq, C.mp.injEq, C.f.injEq, true_and, and_true, GNamed_map_inj] at h; simp_all) ((GStore.mk a_Rels), left)
theorem c_laws_szStore_ok : ∀ vs q o r, c_laws_szStore vs = some (q, o, r) → q → SpecO Try.prog 46 vs o r := famCt_ok (fun x h => k_laws_szStore x.1 x.2 h)
def ac_laws_szStep : ACode := .seq (.reg false [⟨some 2, .box 4 (.t 0), none⟩, ⟨some 4, .mov (.k (.v false [.c (.i .i64 0)])), none⟩]) (.seq (.reg false [⟨some 5, .mov (.t 1), none⟩, ⟨some
  6, .fa 0 (.t 2), none⟩, ⟨some 7, .ld false 1 (.t 6), none⟩, ⟨some 8, .lens (.t 7), none⟩, ⟨some 9, .bin .sub (.t 5) (.t 8), none⟩, ⟨some 1, .mov (.t 9),
  none⟩]) (.seq (.seq (.reg false [⟨some 10, .mov (.t 1), none⟩, ⟨some 11, .bin .lss (.t 10) (.k (.v false [.c (.i .i64 0)])), none⟩]) (.cond (.t 11) (.seq
  (.reg false [⟨some 4, .mov (.k (.v false [.c (.i .i64 (-1))])), none⟩]) .ret) .skip)) (.seq (.reg false [⟨some 12, .fa 1 (.t 2), none⟩, ⟨some 13, .ld true 1
  (.t 12), none⟩, ⟨some 14, .mov (.t 1), none⟩, ⟨some 15, .call 35 [.t 13, .t 14], none⟩, ⟨some 1, .mov (.t 15), none⟩]) (.seq (.seq (.reg false [⟨some 16, .mov
  (.t 1), none⟩, ⟨some 17, .bin .lss (.t 16) (.k (.v false [.c (.i .i64 0)])), none⟩]) (.cond (.t 17) (.seq (.reg false [⟨some 4, .mov (.k (.v false [.c (.i
  .i64 (-1))])), none⟩]) .ret) .skip)) (.seq (.reg false [⟨some 18, .fa 3 (.t 2), none⟩, ⟨some 19, .ld true 1 (.t 18), none⟩, ⟨some 20, .mov (.t 1), none⟩,
  ⟨some 21, .call 33 [.t 19, .t 20], none⟩, ⟨some 1, .mov (.t 21), none⟩]) (.seq (.seq (.reg false [⟨some 22, .mov (.t 1), none⟩, ⟨some 23, .bin .lss (.t 22)
  (.k (.v false [.c (.i .i64 0)])), none⟩]) (.cond (.t 23) (.seq (.reg false [⟨some 4, .mov (.k (.v false [.c (.i .i64 (-1))])), none⟩]) .ret) .skip)) (.seq
  (.reg false [⟨some 24, .mov (.t 1), none⟩, ⟨some 4, .mov (.t 24), none⟩]) .ret)))))))
theorem hc_laws_szStep : Try.f122.body.bind (comp Try.prog Try.f122.ntmps) = some ac_laws_szStep := by kernel_rfl
theorem k_laws_szStep (a : GStep) (left : Int) (hpre : 0 ≤ left ∧ left ≤ 1048576) : SpecO Try.prog 122 [(true, [.s a.Name, .sl false [.i .i64 0, .s []] (a.Row.V.map GValue.cells), .i .i64 a.Rule, .sl false [.s [], .i .i64 0, .s []] (a.Env.Binds.map GBind.cells)]), (false, [.i .i64 left])] [] (.one (false, [.i .i64 (szR left (totStep a : Nat))])) := by
  refine spec_of2 false false none Try.func122 hc_laws_szStep (rvs := [.t 4]) (hΓ := mkCtx_ok (deep := false) (l := [(33, [], c_laws_szEnv), (35, [], c_laws_szRow)]) ⟨c_laws_szEnv_ok, c_laws_szRow_ok, trivial⟩) (h := ?_)
  intro hb hE
  simp only [go_sem] at hb
  unfold ac_laws_szStep
  (first | refine AX_AW ?_ | skip); simp only [go_sem, reduceIte, reduceCtorEq, Nat.reduceEqDiff, Int.reduceToNat, Nat.reduceAdd, Nat.reduceLeDiff, Nat.reduceMul, Nat.reduceSub, Nat.reduceMod, Nat.reduceDiv, Nat.reduceLT, Nat.reduceBEq, List.reduceReplicate, ← and_assoc]; (repeat' first | apply CJ.mk | intro hc); all_goals try ((repeat' first | apply And.intro | intro hs) <;> (try simp only [go_sem, Bool.and_eq_false_iff] at hs) <;> omega)
  all_goals ((repeat (simp (disch := omega) only [wsub] at *)) <;> (try simp only [szR, totStep] at *) <;> (first | omega | (split <;> omega)))
noncomputable def c_laws_szStep : List V → Option (Prop × List (Nat × V) × R) := famCt (α := GStep × Int) (fun x => [(true, [.s x.1.Name, .sl false [.i .i64 0, .s []] (x.1.Row.V.map GValue.cells), .i .i64 x.1.Rule, .sl false [.s [], .i .i64 0, .s []] (x.1.Env.Binds.map GBind.cells)]), (false, [.i .i64 x.2])]) (fun x => 0 ≤ x.2 ∧ x.2 ≤ 1048576) (fun x => []) (fun x => .one (false, [.i .i64 (szR x.2 (totStep x.1 : Nat))]))
@[go_sem] theorem c_laws_szStep_eq (a_Name : List UInt8) (a_Row_V : List GValue) (a_Rule : Int) (a_Env_Binds : List GBind) (left : Int) : c_laws_szStep [(true, [.s a_Name, .sl false [.i .i64 0, .s []] (a_Row_V.map GValue.cells), .i .i64 a_Rule, .sl false [.s [], .i .i64 0, .s []] (a_Env_Binds.map GBind.cells)]), (false, [.i .i64 left])] = some (0 ≤ left ∧ left ≤ 1048576, [], .one (false, [.i .i64 (szR left (totStep (GStep.mk a_Name (GRow.mk a_Row_V) a_Rule (GEnv.mk a_Env_Binds)) : Nat))])) := famCt_eq (by rintro ⟨⟨_, ⟨_⟩, _, ⟨_⟩⟩, _⟩ ⟨⟨_, ⟨_⟩, _, ⟨_⟩⟩, _⟩ h; simp only [List.cons.injEq, Prod.mk.injEq, C.i.injEq, C.s.injEq, C.b.injEq, C.sl.injEq, C.p.injEq, C.mp.injEq, C.f.injEq, true_and, and_true, GBind_map_inj, GValue_map_inj] at h; simp_all) ((GStep.mk a_Name (GRow.mk a_Row_V) a_Rule (GEnv.mk a_Env_Binds)), left)
theorem c_laws_szStep_ok : ∀ vs q o r, c_laws_szStep vs = some (q, o, r) → q → SpecO Try.prog 122 vs o r := famCt_ok (fun x h => k_laws_szStep x.1 x.2 h)
def ac_laws_szStepS : ACode := .seq (.reg false [⟨some 4, .mov (.k (.v false [.c (.i .i64 0)])), none⟩]) (.seq (.reg false [⟨some 6, .mov (.t 1), none⟩, ⟨some 7, .mov (.t 0), none⟩, ⟨some 8,
  .len (.t 7), none⟩, ⟨some 9, .bin .sub (.t 6) (.t 8), none⟩, ⟨some 1, .mov (.t 9), none⟩]) (.seq (.seq (.reg false [⟨some 10, .mov (.t 1), none⟩, ⟨some 11,
  .bin .lss (.t 10) (.k (.v false [.c (.i .i64 0)])), none⟩]) (.cond (.t 11) (.seq (.reg false [⟨some 4, .mov (.k (.v false [.c (.i .i64 (-1))])), none⟩]) .ret)
  .skip)) (.seq (.seq (.reg false [⟨some 5, .mov (.k (.v false [.c (.i .i64 0)])), none⟩]) (.block 0 (.loop (.seq (.seq (.reg false [⟨some 12, .mov (.t 5),
  none⟩, ⟨some 13, .mov (.t 0), none⟩, ⟨some 14, .len (.t 13), none⟩, ⟨some 15, .bin .lss (.t 12) (.t 14), none⟩]) (.cond (.t 15) .skip (.exit 0))) (.seq
  (.block 1 (.seq (.reg false [⟨some 18, .mov (.t 0), none⟩, ⟨some 19, .mov (.t 5), none⟩, ⟨some 20, .ia 4 (.t 18) (.t 19), none⟩, ⟨some 21, .ld true 4 (.t 20),
  none⟩, ⟨some 22, .mov (.t 1), none⟩, ⟨some 23, .call 122 [.t 21, .t 22], none⟩, ⟨some 1, .mov (.t 23), none⟩]) (.seq (.reg false [⟨some 24, .mov (.t 1),
  none⟩, ⟨some 25, .bin .lss (.t 24) (.k (.v false [.c (.i .i64 0)])), none⟩]) (.cond (.t 25) (.seq (.reg false [⟨some 4, .mov (.k (.v false [.c (.i .i64
  (-1))])), none⟩]) .ret) .skip)))) (.reg false [⟨some 16, .mov (.t 5), none⟩, ⟨some 17, .bin .add (.t 16) (.k (.v false [.c (.i .i64 1)])), none⟩, ⟨some 5,
  .mov (.t 17), none⟩])))))) (.seq (.reg false [⟨some 26, .mov (.t 1), none⟩, ⟨some 4, .mov (.t 26), none⟩]) .ret))))
theorem hc_laws_szStepS : Try.f47.body.bind (comp Try.prog Try.f47.ntmps) = some ac_laws_szStepS := by kernel_rfl
theorem k_laws_szStepS (a : List GStep) (left : Int) (hpre : 0 ≤ left ∧ left ≤ 1048576) : SpecO Try.prog 47 [(false, [.sl false [.s [], .sl false [.i .i64 0, .s []] [], .i .i64 0, .sl false [.s [], .i .i64 0, .s []] []] (a.map (GStep.cells false false))]), (false, [.i .i64 left])] [] (.one (false, [.i .i64 (szR left ((a.length + tots totStep a) : Nat))])) := by
  refine spec_of2 false false none Try.func47 hc_laws_szStepS (rvs := [.t 4]) (hΓ := mkCtx_ok (deep := false) (l := [(122, [], c_laws_szStep)]) ⟨c_laws_szStep_ok, trivial⟩) (h := ?_)
  intro hb hE
  simp only [go_sem] at hb
  unfold ac_laws_szStepS
  (first | refine AX_AW ?_ | skip); simp only [go_sem, reduceIte, reduceCtorEq, Nat.reduceEqDiff, Int.reduceToNat, Nat.reduceAdd, Nat.reduceLeDiff, Nat.reduceMul, Nat.reduceSub, Nat.reduceMod, Nat.reduceDiv, Nat.reduceLT, Nat.reduceBEq, List.reduceReplicate, ← and_assoc]; (repeat' first | apply CJ.mk | intro hc); all_goals try ((repeat' first | apply And.intro | intro hs) <;> (try simp only [go_sem, Bool.and_eq_false_iff] at hs) <;> omega)
  · all_goals ((repeat (simp (disch := omega) only [wsub] at *)) <;> (try simp only [szR, szR] at *) <;> (first | omega | (split <;> omega)))
  have hw := wsub (l := left) (n := a.length) (by omega) (by omega) (by omega) (by omega)
  rw [hw] at hc
  refine aw_loop2 false [] [0] [] [] (fun i : {i : Nat // i ≤ a.length ∧ (a.length : Int) + (tots totStep (a.take i) : Nat) ≤ left} => [(5, slV (.i .i64 i.1)), (1, slV (.i .i64 (left - a.length - (tots totStep (a.take i.1) : Nat))))]) (fun i => []) (fun i => []) (fun i => a.length - i.1) (⟨0, by simp only [List.take_zero, tots_nil]; omega⟩) _ rfl ?_ ?_
  · simp only [go_sem, reduceIte, reduceCtorEq, Nat.reduceEqDiff, Int.reduceToNat, Nat.reduceAdd, Nat.reduceLeDiff, Nat.reduceMul, Nat.reduceSub, Nat.reduceMod, Nat.reduceDiv, Nat.reduceLT, Nat.reduceBEq, List.reduceReplicate, ← and_assoc, hw]
    all_goals first | omega | ((repeat' apply And.intro) <;> first | omega | rfl | skip)
  intro S0 hS0 i
  simp only [go_sem, reduceIte, reduceCtorEq, Nat.reduceEqDiff, Int.reduceToNat, Nat.reduceAdd, Nat.reduceLeDiff, Nat.reduceMul, Nat.reduceSub, Nat.reduceMod, Nat.reduceDiv, Nat.reduceLT, Nat.reduceBEq, List.reduceReplicate, ← and_assoc, hw] at hS0
  obtain ⟨i, hi, ht⟩ := i
  (first | refine AX_AW ?_ | skip); simp only [go_sem, reduceIte, reduceCtorEq, Nat.reduceEqDiff, Int.reduceToNat, Nat.reduceAdd, Nat.reduceLeDiff, Nat.reduceMul, Nat.reduceSub, Nat.reduceMod, Nat.reduceDiv, Nat.reduceLT, Nat.reduceBEq, List.reduceReplicate, ← and_assoc, hw, hS0]; (repeat' first | apply CJ.mk | intro hc); all_goals try ((repeat' first | apply And.intro | intro hs) <;> (try simp only [go_sem, Bool.and_eq_false_iff] at hs) <;> omega)
  · have h1 := tots_take_succ totStep (default : GStep) (show i < a.length by omega)
    have h2 := tots_take_le totStep a (i + 1)
    all_goals ((repeat (simp (disch := omega) only [wsub] at *)) <;> (try simp only [szR, szR] at *) <;> (first | omega | (split <;> omega)))
  · have h1 := tots_take_succ totStep (default : GStep) (show i < a.length by omega)
    (refine lpK_n2 (⟨i + 1, by omega, by unfold szR at hc; split at hc <;> omega⟩) _ rfl ?_; simp only [go_sem, reduceIte, reduceCtorEq, Nat.reduceEqDiff, Int.reduceToNat, Nat.reduceAdd, Nat.reduceLeDiff, Nat.reduceMul, Nat.reduceSub, Nat.reduceMod, Nat.reduceDiv, Nat.reduceLT, Nat.reduceBEq, List.reduceReplicate, ← and_assoc, hw, hS0]; first | done | ((repeat' apply And.intro) <;> first | omega | (refine w64 ?_ ?_ ?_ <;> omega) | rfl | skip))
    rw [h1]
    unfold szR at hc ⊢
    split at hc <;> omega
  · have h1 := tots_all totStep (show ¬ i < a.length by omega)
    all_goals ((repeat (simp (disch := omega) only [wsub] at *)) <;> (try simp only [szR, szR] at *) <;> (first | omega | (split <;> omega)))
  all_goals all_goals ((repeat (simp (disch := omega) only [wsub] at *)) <;> (try simp only [szR, szR] at *) <;> (first | omega | (split <;> omega)))
noncomputable def c_laws_szStepS : List V → Option (Prop × List (Nat × V) × R) := famCt (α := (List GStep) × Int) (fun x => [(false, [.sl false [.s [], .sl false [.i .i64 0, .s []] [], .i .i64 0, .sl false [.s [], .i .i64 0, .s []] []] (x.1.map (GStep.cells false false))]), (false, [.i .i64 x.2])]) (fun x => 0 ≤ x.2 ∧ x.2 ≤ 1048576) (fun x => []) (fun x => .one (false, [.i .i64 (szR x.2 ((x.1.length + tots totStep x.1) : Nat))]))
@[go_sem] theorem c_laws_szStepS_eq (a : List GStep) (left : Int) : c_laws_szStepS [(false, [.sl false [.s [], .sl false [.i .i64 0, .s []] [], .i .i64 0, .sl false [.s [], .i .i64 0, .s []] []] (a.map (GStep.cells false false))]), (false, [.i .i64 left])] = some (0 ≤ left ∧ left ≤ 1048576, [], .one (false, [.i .i64 (szR left ((a.length + tots totStep a) : Nat))])) := famCt_eq (by rintro ⟨_, _⟩ ⟨_, _⟩ h; simp only [List.cons.injEq, Prod.mk.injEq, C.i.injEq, C.s.injEq, C.b.injEq, C.sl.injEq, C.p.injEq, C.mp.injEq, C.f.injEq, true_and, and_true, GStep_map_inj] at h; simp_all) (a, left)
theorem c_laws_szStepS_ok : ∀ vs q o r, c_laws_szStepS vs = some (q, o, r) → q → SpecO Try.prog 47 vs o r := famCt_ok (fun x h => k_laws_szStepS x.1 x.2 h)
def ac_laws_toValueS : ACode := .seq (.reg false [⟨some 2, .mov (.k (.v false [.nl [.i .i64 0, .s []]])), none⟩]) (.seq (.reg false [⟨some 5, .mov (.t 0), none⟩, ⟨some 6, .len (.t 5), none⟩,
  ⟨some 7, .mks 2 24 [.i .i64, .s] (.t 6) (.t 6), none⟩, ⟨some 3, .mov (.t 7), none⟩]) (.seq (.seq (.reg false [⟨some 4, .mov (.k (.v false [.c (.i .i64 0)])),
  none⟩]) (.block 0 (.loop (.seq (.seq (.reg false [⟨some 8, .mov (.t 4), none⟩, ⟨some 9, .mov (.t 0), none⟩, ⟨some 10, .len (.t 9), none⟩, ⟨some 11, .bin .lss
  (.t 8) (.t 10), none⟩]) (.cond (.t 11) .skip (.exit 0))) (.seq (.block 1 (.reg false [⟨some 14, .mov (.t 3), none⟩, ⟨some 15, .mov (.t 4), none⟩, ⟨some 16,
  .mov (.t 0), none⟩, ⟨some 17, .mov (.t 4), none⟩, ⟨some 18, .ia 2 (.t 16) (.t 17), none⟩, ⟨some 19, .ld true 2 (.t 18), none⟩, ⟨some 20, .call 198 [.t 19],
  none⟩, ⟨some 21, .ia 2 (.t 14) (.t 15), none⟩, ⟨none, .st 2 (.t 21) (.t 20), none⟩])) (.reg false [⟨some 12, .mov (.t 4), none⟩, ⟨some 13, .bin .add (.t 12)
  (.k (.v false [.c (.i .i64 1)])), none⟩, ⟨some 4, .mov (.t 13), none⟩])))))) (.seq (.reg false [⟨some 22, .mov (.t 3), none⟩, ⟨some 2, .mov (.t 22), none⟩])
  .ret)))
theorem hc_laws_toValueS : Try.f113.body.bind (comp Try.prog Try.f113.ntmps) = some ac_laws_toValueS := by kernel_rfl
theorem k_laws_toValueS (a : List GValue) (hpre : (((a.length + tots totValue a) : Nat) : Int) ≤ 1048576) : SpecO Try.prog 113 [(false, [.sl false [.i .i64 0, .s []] (a.map GValue.cells)])] [] (.one (false, [.sl true [.i .i64 0, .s []] (a.map GValue.cells)])) := by
  refine spec_of2 true false none Try.func113 hc_laws_toValueS (rvs := [.t 2]) (hΓ := mkCtx_ok (deep := true) (l := [(198, [], c_laws_toValue)]) ⟨c_laws_toValue_ok, trivial⟩) (h := ?_)
  intro hb hE
  simp only [go_sem] at hb
  unfold ac_laws_toValueS
  (first | refine AX_AW ?_ | skip); simp only [go_sem, reduceIte, reduceCtorEq, Nat.reduceEqDiff, Int.reduceToNat, Nat.reduceAdd, Nat.reduceLeDiff, Nat.reduceMul, Nat.reduceSub, Nat.reduceMod, Nat.reduceDiv, Nat.reduceLT, Nat.reduceBEq, List.reduceReplicate, ← and_assoc, GValue_rep]; (repeat' first | apply CJ.mk | intro hc); all_goals try ((repeat' first | apply And.intro | intro hs) <;> (try simp only [go_sem, Bool.and_eq_false_iff] at hs) <;> omega)
  refine aw_loop2 true [] [0, 3] [] [] (fun i : {p : Nat × (List GValue) // p.1 ≤ a.length ∧ p.2.length = a.length ∧ p.2.take p.1 = a.take p.1} => [(4, slV (.i .i64 i.1.1))]) (fun i => []) (fun i => [(896, [.i .i64 0, .s []], i.1.2.map GValue.cells)]) (fun i => a.length - i.1.1) (⟨(0, List.replicate a.length default), by simp⟩) _ rfl ?_ ?_
  · simp only [go_sem, reduceIte, reduceCtorEq, Nat.reduceEqDiff, Int.reduceToNat, Nat.reduceAdd, Nat.reduceLeDiff, Nat.reduceMul, Nat.reduceSub, Nat.reduceMod, Nat.reduceDiv, Nat.reduceLT, Nat.reduceBEq, List.reduceReplicate, ← and_assoc, GValue_rep]
    all_goals first | omega | ((repeat' apply And.intro) <;> first | omega | rfl | skip)
  intro S0 hS0 i
  simp only [go_sem, reduceIte, reduceCtorEq, Nat.reduceEqDiff, Int.reduceToNat, Nat.reduceAdd, Nat.reduceLeDiff, Nat.reduceMul, Nat.reduceSub, Nat.reduceMod, Nat.reduceDiv, Nat.reduceLT, Nat.reduceBEq, List.reduceReplicate, ← and_assoc, GValue_rep] at hS0
  obtain ⟨⟨i, L⟩, hi, hl, ht⟩ := i
  simp only at hi hl ht
  (first | refine AX_AW ?_ | skip); simp only [go_sem, reduceIte, reduceCtorEq, Nat.reduceEqDiff, Int.reduceToNat, Nat.reduceAdd, Nat.reduceLeDiff, Nat.reduceMul, Nat.reduceSub, Nat.reduceMod, Nat.reduceDiv, Nat.reduceLT, Nat.reduceBEq, List.reduceReplicate, ← and_assoc, GValue_rep, hS0]; (repeat' first | apply CJ.mk | intro hc); all_goals try ((repeat' first | apply And.intro | intro hs) <;> (try simp only [go_sem, Bool.and_eq_false_iff] at hs) <;> omega)
  · (refine lpK_n2 (⟨(i + 1, L.set i (a.getD i default)), by simp only; omega, by simp [hl], take_set_succ hl ht (by omega)⟩) _ rfl ?_; simp only [go_sem, reduceIte, reduceCtorEq, Nat.reduceEqDiff, Int.reduceToNat, Nat.reduceAdd, Nat.reduceLeDiff, Nat.reduceMul, Nat.reduceSub, Nat.reduceMod, Nat.reduceDiv, Nat.reduceLT, Nat.reduceBEq, List.reduceReplicate, ← and_assoc, GValue_rep, hS0]; first | done | ((repeat' apply And.intro) <;> first | omega | (refine w64 ?_ ?_ ?_ <;> omega) | rfl | skip))
  · obtain rfl := eq_of_take hl ht (by omega)
    rfl
  all_goals trace_state
noncomputable def c_laws_toValueS : List V → Option (Prop × List (Nat × V) × R) := famCt (α := (List GValue)) (fun x => [(false, [.sl false [.i .i64 0, .s []] (x.map GValue.cells)])]) (fun x => (((x.length + tots totValue x) : Nat) : Int) ≤ 1048576) (fun x => []) (fun x => .one (false, [.sl true [.i .i64 0, .s []] (x.map GValue.cells)]))
@[go_sem] theorem c_laws_toValueS_eq (a : List GValue) : c_laws_toValueS [(false, [.sl false [.i .i64 0, .s []] (a.map GValue.cells)])] = some ((((a.length + tots totValue a) : Nat) : Int) ≤ 1048576, [], .one (false, [.sl true [.i .i64 0, .s []] (a.map GValue.cells)])) := famCt_eq (by intro x y h; simp only [List.cons.injEq, Prod.mk.injEq, C.i.injEq, C.s.injEq, C.b.injEq, C.sl.injEq, C.p.injEq, C.mp.injEq, C.f.injEq, true_and, and_true, GValue_map_inj] at h; simp_all) a
theorem c_laws_toValueS_ok : ∀ vs q o r, c_laws_toValueS vs = some (q, o, r) → q → SpecO Try.prog 113 vs o r := famCt_ok (fun x h => k_laws_toValueS x h)
def ac_laws_toRow : ACode := .seq (.reg false [⟨some 1, .box 1 (.t 0), none⟩, ⟨some 2, .alloc [.sl [.i .i64 0, .s []]], none⟩]) (.seq (.reg false [⟨some 3, .alloc [.sl [.i .i64 0, .s []]],
  none⟩]) (.seq (.reg false [⟨some 4, .fa 0 (.t 1), none⟩, ⟨some 5, .ld false 1 (.t 4), none⟩, ⟨some 6, .call 113 [.t 5], none⟩, ⟨some 7, .fa 0 (.t 3), none⟩,
  ⟨none, .st 1 (.t 7) (.t 6), none⟩]) (.seq (.reg false [⟨some 8, .ld true 1 (.t 3), none⟩, ⟨none, .st 1 (.t 2) (.t 8), none⟩]) .ret)))
theorem hc_laws_toRow : Try.f38.body.bind (comp Try.prog Try.f38.ntmps) = some ac_laws_toRow := by kernel_rfl
theorem k_laws_toRow (a : GRow) (hpre : (totRow a : Int) ≤ 1048576) : SpecO Try.prog 38 [(true, [.sl false [.i .i64 0, .s []] (a.V.map GValue.cells)])] [] (.one (true, [.sl true [.i .i64 0, .s []] (a.V.map GValue.cells)])) := by
  refine spec_of2 true false none Try.func38 hc_laws_toRow (rvs := [.c 2 true 1]) (hΓ := mkCtx_ok (deep := true) (l := [(113, [], c_laws_toValueS)]) ⟨c_laws_toValueS_ok, trivial⟩) (h := ?_)
  intro hb hE
  simp only [go_sem] at hb
  unfold ac_laws_toRow
  (first | refine AX_AW ?_ | skip); simp only [go_sem, reduceIte, reduceCtorEq, Nat.reduceEqDiff, Int.reduceToNat, Nat.reduceAdd, Nat.reduceLeDiff, Nat.reduceMul, Nat.reduceSub, Nat.reduceMod, Nat.reduceDiv, Nat.reduceLT, Nat.reduceBEq, List.reduceReplicate, ← and_assoc]; (repeat' first | apply CJ.mk | intro hc); all_goals try ((repeat' first | apply And.intro | intro hs) <;> (try simp only [go_sem, Bool.and_eq_false_iff] at hs) <;> omega)
  all_goals (simp only [totRow] at *; omega)
noncomputable def c_laws_toRow : List V → Option (Prop × List (Nat × V) × R) := famCt (α := GRow) (fun x => [(true, [.sl false [.i .i64 0, .s []] (x.V.map GValue.cells)])]) (fun x => (totRow x : Int) ≤ 1048576) (fun x => []) (fun x => .one (true, [.sl true [.i .i64 0, .s []] (x.V.map GValue.cells)]))
@[go_sem] theorem c_laws_toRow_eq (a_V : List GValue) : c_laws_toRow [(true, [.sl false [.i .i64 0, .s []] (a_V.map GValue.cells)])] = some ((totRow (GRow.mk a_V) : Int) ≤ 1048576, [], .one (true, [.sl true [.i .i64 0, .s []] (((GRow.mk a_V).V).map GValue.cells)])) := famCt_eq (by rintro ⟨_⟩ ⟨_⟩ h; simp only [List.cons.injEq, Prod.mk.injEq, C.i.injEq, C.s.injEq, C.b.injEq, C.sl.injEq, C.p.injEq, C.mp.injEq, C.f.injEq, true_and, and_true, GValue_map_inj] at h; simp_all) (GRow.mk a_V)
theorem c_laws_toRow_ok : ∀ vs q o r, c_laws_toRow vs = some (q, o, r) → q → SpecO Try.prog 38 vs o r := famCt_ok (fun x h => k_laws_toRow x h)
def ac_laws_toRowS : ACode := .seq (.reg false [⟨some 2, .mov (.k (.v false [.nl [.sl false [.i .i64 0, .s []] []]])), none⟩]) (.seq (.reg false [⟨some 5, .mov (.t 0), none⟩, ⟨some 6, .len
  (.t 5), none⟩, ⟨some 7, .mks 1 24 [.sl [.i .i64 0, .s []]] (.t 6) (.t 6), none⟩, ⟨some 3, .mov (.t 7), none⟩]) (.seq (.seq (.reg false [⟨some 4, .mov (.k (.v
  false [.c (.i .i64 0)])), none⟩]) (.block 0 (.loop (.seq (.seq (.reg false [⟨some 8, .mov (.t 4), none⟩, ⟨some 9, .mov (.t 0), none⟩, ⟨some 10, .len (.t 9),
  none⟩, ⟨some 11, .bin .lss (.t 8) (.t 10), none⟩]) (.cond (.t 11) .skip (.exit 0))) (.seq (.block 1 (.reg false [⟨some 14, .mov (.t 3), none⟩, ⟨some 15, .mov
  (.t 4), none⟩, ⟨some 16, .mov (.t 0), none⟩, ⟨some 17, .mov (.t 4), none⟩, ⟨some 18, .ia 1 (.t 16) (.t 17), none⟩, ⟨some 19, .ld true 1 (.t 18), none⟩, ⟨some
  20, .call 38 [.t 19], none⟩, ⟨some 21, .ia 1 (.t 14) (.t 15), none⟩, ⟨none, .st 1 (.t 21) (.t 20), none⟩])) (.reg false [⟨some 12, .mov (.t 4), none⟩, ⟨some
  13, .bin .add (.t 12) (.k (.v false [.c (.i .i64 1)])), none⟩, ⟨some 4, .mov (.t 13), none⟩])))))) (.seq (.reg false [⟨some 22, .mov (.t 3), none⟩, ⟨some 2,
  .mov (.t 22), none⟩]) .ret)))
theorem hc_laws_toRowS : Try.f289.body.bind (comp Try.prog Try.f289.ntmps) = some ac_laws_toRowS := by kernel_rfl
theorem k_laws_toRowS (a : List GRow) (hpre : (((a.length + tots totRow a) : Nat) : Int) ≤ 1048576) : SpecO Try.prog 289 [(false, [.sl false [.sl false [.i .i64 0, .s []] []] (a.map (GRow.cells false false))])] [] (.one (false, [.sl true [.sl true [.i .i64 0, .s []] []] (a.map (GRow.cells true true))])) := by
  refine spec_of2 true false none Try.func289 hc_laws_toRowS (rvs := [.t 2]) (hΓ := mkCtx_ok (deep := true) (l := [(38, [], c_laws_toRow)]) ⟨c_laws_toRow_ok, trivial⟩) (h := ?_)
  intro hb hE
  simp only [go_sem] at hb
  unfold ac_laws_toRowS
  (first | refine AX_AW ?_ | skip); simp only [go_sem, reduceIte, reduceCtorEq, Nat.reduceEqDiff, Int.reduceToNat, Nat.reduceAdd, Nat.reduceLeDiff, Nat.reduceMul, Nat.reduceSub, Nat.reduceMod, Nat.reduceDiv, Nat.reduceLT, Nat.reduceBEq, List.reduceReplicate, ← and_assoc, GRow_rep]; (repeat' first | apply CJ.mk | intro hc); all_goals try ((repeat' first | apply And.intro | intro hs) <;> (try simp only [go_sem, Bool.and_eq_false_iff] at hs) <;> omega)
  refine aw_loop2 true [] [0, 3] [] [] (fun i : {p : Nat × (List GRow) // p.1 ≤ a.length ∧ p.2.length = a.length ∧ p.2.take p.1 = a.take p.1} => [(4, slV (.i .i64 i.1.1))]) (fun i => []) (fun i => [(896, [.sl true [.i .i64 0, .s []] []], i.1.2.map (GRow.cells true true))]) (fun i => a.length - i.1.1) (⟨(0, List.replicate a.length default), by simp⟩) _ rfl ?_ ?_
  · simp only [go_sem, reduceIte, reduceCtorEq, Nat.reduceEqDiff, Int.reduceToNat, Nat.reduceAdd, Nat.reduceLeDiff, Nat.reduceMul, Nat.reduceSub, Nat.reduceMod, Nat.reduceDiv, Nat.reduceLT, Nat.reduceBEq, List.reduceReplicate, ← and_assoc, GRow_rep]
    all_goals first | omega | ((repeat' apply And.intro) <;> first | omega | rfl | skip)
  intro S0 hS0 i
  simp only [go_sem, reduceIte, reduceCtorEq, Nat.reduceEqDiff, Int.reduceToNat, Nat.reduceAdd, Nat.reduceLeDiff, Nat.reduceMul, Nat.reduceSub, Nat.reduceMod, Nat.reduceDiv, Nat.reduceLT, Nat.reduceBEq, List.reduceReplicate, ← and_assoc, GRow_rep] at hS0
  obtain ⟨⟨i, L⟩, hi, hl, ht⟩ := i
  simp only at hi hl ht
  have hg := tots_getD totRow a i default rfl
  (first | refine AX_AW ?_ | skip); simp only [go_sem, reduceIte, reduceCtorEq, Nat.reduceEqDiff, Int.reduceToNat, Nat.reduceAdd, Nat.reduceLeDiff, Nat.reduceMul, Nat.reduceSub, Nat.reduceMod, Nat.reduceDiv, Nat.reduceLT, Nat.reduceBEq, List.reduceReplicate, ← and_assoc, GRow_rep, hS0]; (repeat' first | apply CJ.mk | intro hc); all_goals try ((repeat' first | apply And.intro | intro hs) <;> (try simp only [go_sem, Bool.and_eq_false_iff] at hs) <;> omega)
  · (refine lpK_n2 (⟨(i + 1, L.set i (a.getD i default)), by simp only; omega, by simp [hl], take_set_succ hl ht (by omega)⟩) _ rfl ?_; simp only [go_sem, reduceIte, reduceCtorEq, Nat.reduceEqDiff, Int.reduceToNat, Nat.reduceAdd, Nat.reduceLeDiff, Nat.reduceMul, Nat.reduceSub, Nat.reduceMod, Nat.reduceDiv, Nat.reduceLT, Nat.reduceBEq, List.reduceReplicate, ← and_assoc, GRow_rep, hS0]; first | done | ((repeat' apply And.intro) <;> first | omega | (refine w64 ?_ ?_ ?_ <;> omega) | rfl | skip))
  · obtain rfl := eq_of_take hl ht (by omega)
    rfl
  all_goals trace_state
noncomputable def c_laws_toRowS : List V → Option (Prop × List (Nat × V) × R) := famCt (α := (List GRow)) (fun x => [(false, [.sl false [.sl false [.i .i64 0, .s []] []] (x.map (GRow.cells false false))])]) (fun x => (((x.length + tots totRow x) : Nat) : Int) ≤ 1048576) (fun x => []) (fun x => .one (false, [.sl true [.sl true [.i .i64 0, .s []] []] (x.map (GRow.cells true true))]))
@[go_sem] theorem c_laws_toRowS_eq (a : List GRow) : c_laws_toRowS [(false, [.sl false [.sl false [.i .i64 0, .s []] []] (a.map (GRow.cells false false))])] = some ((((a.length + tots totRow a) : Nat) : Int) ≤ 1048576, [], .one (false, [.sl true [.sl true [.i .i64 0, .s []] []] (a.map (GRow.cells true true))])) := famCt_eq (by intro x y h; simp only [List.cons.injEq, Prod.mk.injEq, C.i.injEq, C.s.injEq, C.b.injEq, C.sl.injEq, C.p.injEq, C.mp.injEq, C.f.injEq, true_and, and_true, GRow_map_inj] at h; simp_all) a
theorem c_laws_toRowS_ok : ∀ vs q o r, c_laws_toRowS vs = some (q, o, r) → q → SpecO Try.prog 289 vs o r := famCt_ok (fun x h => k_laws_toRowS x h)
def ac_laws_toRel : ACode := .seq (.reg false [⟨some 1, .box 2 (.t 0), none⟩, ⟨some 2, .alloc [.i .i64, .sl [.sl false [.i .i64 0, .s []] []]], none⟩]) (.seq (.reg false [⟨some 3, .alloc
  [.i .i64, .sl [.sl false [.i .i64 0, .s []] []]], none⟩]) (.seq (.reg false [⟨some 4, .fa 0 (.t 1), none⟩, ⟨some 5, .ld false 1 (.t 4), none⟩, ⟨some 6, .fa 0
  (.t 3), none⟩, ⟨none, .st 1 (.t 6) (.t 5), none⟩]) (.seq (.reg false [⟨some 7, .fa 1 (.t 1), none⟩, ⟨some 8, .ld false 1 (.t 7), none⟩, ⟨some 9, .call 289 [.t
  8], none⟩, ⟨some 10, .fa 1 (.t 3), none⟩, ⟨none, .st 1 (.t 10) (.t 9), none⟩]) (.seq (.reg false [⟨some 11, .ld true 2 (.t 3), none⟩, ⟨none, .st 2 (.t 2) (.t
  11), none⟩]) .ret))))
theorem hc_laws_toRel : Try.f267.body.bind (comp Try.prog Try.f267.ntmps) = some ac_laws_toRel := by kernel_rfl
theorem k_laws_toRel (a : GRel) (hpre : (totRel a : Int) ≤ 1048576) : SpecO Try.prog 267 [(true, [.i .i64 a.Arity, .sl false [.sl false [.i .i64 0, .s []] []] (a.Rows.map (GRow.cells false false))])] [] (.one (true, [.i .i64 a.Arity, .sl true [.sl true [.i .i64 0, .s []] []] (a.Rows.map (GRow.cells true true))])) := by
  refine spec_of2 true false none Try.func267 hc_laws_toRel (rvs := [.c 2 true 2]) (hΓ := mkCtx_ok (deep := true) (l := [(289, [], c_laws_toRowS)]) ⟨c_laws_toRowS_ok, trivial⟩) (h := ?_)
  intro hb hE
  simp only [go_sem] at hb
  unfold ac_laws_toRel
  (first | refine AX_AW ?_ | skip); simp only [go_sem, reduceIte, reduceCtorEq, Nat.reduceEqDiff, Int.reduceToNat, Nat.reduceAdd, Nat.reduceLeDiff, Nat.reduceMul, Nat.reduceSub, Nat.reduceMod, Nat.reduceDiv, Nat.reduceLT, Nat.reduceBEq, List.reduceReplicate, ← and_assoc]; (repeat' first | apply CJ.mk | intro hc); all_goals try ((repeat' first | apply And.intro | intro hs) <;> (try simp only [go_sem, Bool.and_eq_false_iff] at hs) <;> omega)
  all_goals (simp only [totRel] at *; omega)
noncomputable def c_laws_toRel : List V → Option (Prop × List (Nat × V) × R) := famCt (α := GRel) (fun x => [(true, [.i .i64 x.Arity, .sl false [.sl false [.i .i64 0, .s []] []] (x.Rows.map (GRow.cells false false))])]) (fun x => (totRel x : Int) ≤ 1048576) (fun x => []) (fun x => .one (true, [.i .i64 x.Arity, .sl true [.sl true [.i .i64 0, .s []] []] (x.Rows.map (GRow.cells true true))]))
@[go_sem] theorem c_laws_toRel_eq (a_Arity : Int) (a_Rows : List GRow) : c_laws_toRel [(true, [.i .i64 a_Arity, .sl false [.sl false [.i .i64 0, .s []] []] (a_Rows.map (GRow.cells false false))])] = some ((totRel (GRel.mk a_Arity a_Rows) : Int) ≤ 1048576, [], .one (true, [.i .i64 ((GRel.mk a_Arity a_Rows).Arity), .sl true [.sl true [.i .i64 0, .s []] []] (((GRel.mk a_Arity a_Rows).Rows).map (GRow.cells true true))])) := famCt_eq (by rintro ⟨_, _⟩ ⟨_, _⟩ h; simp only [List.cons.injEq, Prod.mk.injEq, C.i.injEq, C.s.injEq, C.b.injEq, C.sl.injEq, C.p.injEq, C.mp.injEq, C.f.injEq, true_and, and_true, GRow_map_inj] at h; simp_all) (GRel.mk a_Arity a_Rows)
theorem c_laws_toRel_ok : ∀ vs q o r, c_laws_toRel vs = some (q, o, r) → q → SpecO Try.prog 267 vs o r := famCt_ok (fun x h => k_laws_toRel x h)
def ac_laws_toNamed : ACode := .seq (.reg false [⟨some 1, .box 3 (.t 0), none⟩, ⟨some 2, .alloc [.s, .i .i64, .sl [.sl false [.i .i64 0, .s []] []]], none⟩]) (.seq (.reg false [⟨some 3,
  .alloc [.s, .i .i64, .sl [.sl false [.i .i64 0, .s []] []]], none⟩]) (.seq (.reg false [⟨some 4, .fa 0 (.t 1), none⟩, ⟨some 5, .ld false 1 (.t 4), none⟩,
  ⟨some 6, .fa 0 (.t 3), none⟩, ⟨none, .st 1 (.t 6) (.t 5), none⟩]) (.seq (.reg false [⟨some 7, .fa 1 (.t 1), none⟩, ⟨some 8, .ld true 2 (.t 7), none⟩, ⟨some 9,
  .call 267 [.t 8], none⟩, ⟨some 10, .fa 1 (.t 3), none⟩, ⟨none, .st 2 (.t 10) (.t 9), none⟩]) (.seq (.reg false [⟨some 11, .ld true 3 (.t 3), none⟩, ⟨none, .st
  3 (.t 2) (.t 11), none⟩]) .ret))))
theorem hc_laws_toNamed : Try.f207.body.bind (comp Try.prog Try.f207.ntmps) = some ac_laws_toNamed := by kernel_rfl
theorem k_laws_toNamed (a : GNamed) (hpre : (totNamed a : Int) ≤ 1048576) : SpecO Try.prog 207 [(true, [.s a.Name, .i .i64 a.Rel.Arity, .sl false [.sl false [.i .i64 0, .s []] []] (a.Rel.Rows.map (GRow.cells false false))])] [] (.one (true, [.s a.Name, .i .i64 a.Rel.Arity, .sl true [.sl true [.i .i64 0, .s []] []] (a.Rel.Rows.map (GRow.cells true true))])) := by
  refine spec_of2 true false none Try.func207 hc_laws_toNamed (rvs := [.c 2 true 3]) (hΓ := mkCtx_ok (deep := true) (l := [(267, [], c_laws_toRel)]) ⟨c_laws_toRel_ok, trivial⟩) (h := ?_)
  intro hb hE
  simp only [go_sem] at hb
  unfold ac_laws_toNamed
  (first | refine AX_AW ?_ | skip); simp only [go_sem, reduceIte, reduceCtorEq, Nat.reduceEqDiff, Int.reduceToNat, Nat.reduceAdd, Nat.reduceLeDiff, Nat.reduceMul, Nat.reduceSub, Nat.reduceMod, Nat.reduceDiv, Nat.reduceLT, Nat.reduceBEq, List.reduceReplicate, ← and_assoc]; (repeat' first | apply CJ.mk | intro hc); all_goals try ((repeat' first | apply And.intro | intro hs) <;> (try simp only [go_sem, Bool.and_eq_false_iff] at hs) <;> omega)
  all_goals (simp only [totNamed] at *; omega)
noncomputable def c_laws_toNamed : List V → Option (Prop × List (Nat × V) × R) := famCt (α := GNamed) (fun x => [(true, [.s x.Name, .i .i64 x.Rel.Arity, .sl false [.sl false [.i .i64 0, .s []] []] (x.Rel.Rows.map (GRow.cells false false))])]) (fun x => (totNamed x : Int) ≤ 1048576) (fun x => []) (fun x => .one (true, [.s x.Name, .i .i64 x.Rel.Arity, .sl true [.sl true [.i .i64 0, .s []] []] (x.Rel.Rows.map (GRow.cells true true))]))
@[go_sem] theorem c_laws_toNamed_eq (a_Name : List UInt8) (a_Rel_Arity : Int) (a_Rel_Rows : List GRow) : c_laws_toNamed [(true, [.s a_Name, .i .i64 a_Rel_Arity, .sl false [.sl false [.i .i64 0, .s []] []] (a_Rel_Rows.map (GRow.cells false false))])] = some ((totNamed (GNamed.mk a_Name (GRel.mk a_Rel_Arity a_Rel_Rows)) : Int) ≤ 1048576, [], .one (true, [.s ((GNamed.mk a_Name (GRel.mk a_Rel_Arity a_Rel_Rows)).Name), .i .i64 (((GNamed.mk a_Name (GRel.mk a_Rel_Arity a_Rel_Rows)).Rel).Arity), .sl true [.sl true [.i .i64 0, .s []] []] ((((GNamed.mk a_Name (GRel.mk a_Rel_Arity a_Rel_Rows)).Rel).Rows).map (GRow.cells true true))])) := famCt_eq (by rintro ⟨_, ⟨_, _⟩⟩ ⟨_, ⟨_, _⟩⟩ h; simp only [List.cons.injEq, Prod.mk.injEq, C.i.injEq, C.s.injEq, C.b.injEq, C.sl.injEq, C.p.injEq, C.mp.injEq, C.f.injEq, true_and, and_true, GRow_map_inj] at h; simp_all) (GNamed.mk a_Name (GRel.mk a_Rel_Arity a_Rel_Rows))
theorem c_laws_toNamed_ok : ∀ vs q o r, c_laws_toNamed vs = some (q, o, r) → q → SpecO Try.prog 207 vs o r := famCt_ok (fun x h => k_laws_toNamed x h)
def ac_laws_toNamedS : ACode := .seq (.reg false [⟨some 2, .mov (.k (.v false [.nl [.s [], .i .i64 0, .sl false [.sl false [.i .i64 0, .s []] []] []]])), none⟩]) (.seq (.reg false [⟨some 5,
  .mov (.t 0), none⟩, ⟨some 6, .len (.t 5), none⟩, ⟨some 7, .mks 3 48 [.s, .i .i64, .sl [.sl false [.i .i64 0, .s []] []]] (.t 6) (.t 6), none⟩, ⟨some 3, .mov
  (.t 7), none⟩]) (.seq (.seq (.reg false [⟨some 4, .mov (.k (.v false [.c (.i .i64 0)])), none⟩]) (.block 0 (.loop (.seq (.seq (.reg false [⟨some 8, .mov (.t
  4), none⟩, ⟨some 9, .mov (.t 0), none⟩, ⟨some 10, .len (.t 9), none⟩, ⟨some 11, .bin .lss (.t 8) (.t 10), none⟩]) (.cond (.t 11) .skip (.exit 0))) (.seq
  (.block 1 (.reg false [⟨some 14, .mov (.t 3), none⟩, ⟨some 15, .mov (.t 4), none⟩, ⟨some 16, .mov (.t 0), none⟩, ⟨some 17, .mov (.t 4), none⟩, ⟨some 18, .ia 3
  (.t 16) (.t 17), none⟩, ⟨some 19, .ld true 3 (.t 18), none⟩, ⟨some 20, .call 207 [.t 19], none⟩, ⟨some 21, .ia 3 (.t 14) (.t 15), none⟩, ⟨none, .st 3 (.t 21)
  (.t 20), none⟩])) (.reg false [⟨some 12, .mov (.t 4), none⟩, ⟨some 13, .bin .add (.t 12) (.k (.v false [.c (.i .i64 1)])), none⟩, ⟨some 4, .mov (.t 13),
  none⟩])))))) (.seq (.reg false [⟨some 22, .mov (.t 3), none⟩, ⟨some 2, .mov (.t 22), none⟩]) .ret)))
theorem hc_laws_toNamedS : Try.f127.body.bind (comp Try.prog Try.f127.ntmps) = some ac_laws_toNamedS := by kernel_rfl
theorem k_laws_toNamedS (a : List GNamed) (hpre : (((a.length + tots totNamed a) : Nat) : Int) ≤ 1048576) : SpecO Try.prog 127 [(false, [.sl false [.s [], .i .i64 0, .sl false [.sl false [.i .i64 0, .s []] []] []] (a.map (GNamed.cells false false))])] [] (.one (false, [.sl true [.s [], .i .i64 0, .sl true [.sl true [.i .i64 0, .s []] []] []] (a.map (GNamed.cells true true))])) := by
  refine spec_of2 true false none Try.func127 hc_laws_toNamedS (rvs := [.t 2]) (hΓ := mkCtx_ok (deep := true) (l := [(207, [], c_laws_toNamed)]) ⟨c_laws_toNamed_ok, trivial⟩) (h := ?_)
  intro hb hE
  simp only [go_sem] at hb
  unfold ac_laws_toNamedS
  (first | refine AX_AW ?_ | skip); simp only [go_sem, reduceIte, reduceCtorEq, Nat.reduceEqDiff, Int.reduceToNat, Nat.reduceAdd, Nat.reduceLeDiff, Nat.reduceMul, Nat.reduceSub, Nat.reduceMod, Nat.reduceDiv, Nat.reduceLT, Nat.reduceBEq, List.reduceReplicate, ← and_assoc, GNamed_rep]; (repeat' first | apply CJ.mk | intro hc); all_goals try ((repeat' first | apply And.intro | intro hs) <;> (try simp only [go_sem, Bool.and_eq_false_iff] at hs) <;> omega)
  refine aw_loop2 true [] [0, 3] [] [] (fun i : {p : Nat × (List GNamed) // p.1 ≤ a.length ∧ p.2.length = a.length ∧ p.2.take p.1 = a.take p.1} => [(4, slV (.i .i64 i.1.1))]) (fun i => []) (fun i => [(896, [.s [], .i .i64 0, .sl true [.sl true [.i .i64 0, .s []] []] []], i.1.2.map (GNamed.cells true true))]) (fun i => a.length - i.1.1) (⟨(0, List.replicate a.length default), by simp⟩) _ rfl ?_ ?_
  · simp only [go_sem, reduceIte, reduceCtorEq, Nat.reduceEqDiff, Int.reduceToNat, Nat.reduceAdd, Nat.reduceLeDiff, Nat.reduceMul, Nat.reduceSub, Nat.reduceMod, Nat.reduceDiv, Nat.reduceLT, Nat.reduceBEq, List.reduceReplicate, ← and_assoc, GNamed_rep]
    all_goals first | omega | ((repeat' apply And.intro) <;> first | omega | rfl | skip)
  intro S0 hS0 i
  simp only [go_sem, reduceIte, reduceCtorEq, Nat.reduceEqDiff, Int.reduceToNat, Nat.reduceAdd, Nat.reduceLeDiff, Nat.reduceMul, Nat.reduceSub, Nat.reduceMod, Nat.reduceDiv, Nat.reduceLT, Nat.reduceBEq, List.reduceReplicate, ← and_assoc, GNamed_rep] at hS0
  obtain ⟨⟨i, L⟩, hi, hl, ht⟩ := i
  simp only at hi hl ht
  have hg := tots_getD totNamed a i default rfl
  (first | refine AX_AW ?_ | skip); simp only [go_sem, reduceIte, reduceCtorEq, Nat.reduceEqDiff, Int.reduceToNat, Nat.reduceAdd, Nat.reduceLeDiff, Nat.reduceMul, Nat.reduceSub, Nat.reduceMod, Nat.reduceDiv, Nat.reduceLT, Nat.reduceBEq, List.reduceReplicate, ← and_assoc, GNamed_rep, hS0]; (repeat' first | apply CJ.mk | intro hc); all_goals try ((repeat' first | apply And.intro | intro hs) <;> (try simp only [go_sem, Bool.and_eq_false_iff] at hs) <;> omega)
  · (refine lpK_n2 (⟨(i + 1, L.set i (a.getD i default)), by simp only; omega, by simp [hl], take_set_succ hl ht (by omega)⟩) _ rfl ?_; simp only [go_sem, reduceIte, reduceCtorEq, Nat.reduceEqDiff, Int.reduceToNat, Nat.reduceAdd, Nat.reduceLeDiff, Nat.reduceMul, Nat.reduceSub, Nat.reduceMod, Nat.reduceDiv, Nat.reduceLT, Nat.reduceBEq, List.reduceReplicate, ← and_assoc, GNamed_rep, hS0]; first | done | ((repeat' apply And.intro) <;> first | omega | (refine w64 ?_ ?_ ?_ <;> omega) | rfl | skip))
  · obtain rfl := eq_of_take hl ht (by omega)
    rfl
  all_goals trace_state
noncomputable def c_laws_toNamedS : List V → Option (Prop × List (Nat × V) × R) := famCt (α := (List GNamed)) (fun x => [(false, [.sl false [.s [], .i .i64 0, .sl false [.sl false [.i .i64 0, .s []] []] []] (x.map (GNamed.cells false false))])]) (fun x => (((x.length + tots totNamed x) : Nat) : Int) ≤ 1048576) (fun x => []) (fun x => .one (false, [.sl true [.s [], .i .i64 0, .sl true [.sl true [.i .i64 0, .s []] []] []] (x.map (GNamed.cells true true))]))
@[go_sem] theorem c_laws_toNamedS_eq (a : List GNamed) : c_laws_toNamedS [(false, [.sl false [.s [], .i .i64 0, .sl false [.sl false [.i .i64 0, .s []] []] []] (a.map (GNamed.cells false false))])] = some ((((a.length + tots totNamed a) : Nat) : Int) ≤ 1048576, [], .one (false, [.sl true [.s [], .i .i64 0, .sl true [.sl true [.i .i64 0, .s []] []] []] (a.map (GNamed.cells true true))])) := famCt_eq (by intro x y h; simp only [List.cons.injEq, Prod.mk.injEq, C.i.injEq, C.s.injEq, C.b.injEq, C.sl.injEq, C.p.injEq, C.mp.injEq, C.f.injEq, true_and, and_true, GNamed_map_inj] at h; simp_all) a
theorem c_laws_toNamedS_ok : ∀ vs q o r, c_laws_toNamedS vs = some (q, o, r) → q → SpecO Try.prog 127 vs o r := famCt_ok (fun x h => k_laws_toNamedS x h)
def ac_laws_toStore : ACode := .seq (.reg false [⟨some 1, .box 1 (.t 0), none⟩, ⟨some 2, .alloc [.sl [.s [], .i .i64 0, .sl false [.sl false [.i .i64 0, .s []] []] []]], none⟩]) (.seq (.reg
  false [⟨some 3, .alloc [.sl [.s [], .i .i64 0, .sl false [.sl false [.i .i64 0, .s []] []] []]], none⟩]) (.seq (.reg false [⟨some 4, .fa 0 (.t 1), none⟩,
  ⟨some 5, .ld false 1 (.t 4), none⟩, ⟨some 6, .call 127 [.t 5], none⟩, ⟨some 7, .fa 0 (.t 3), none⟩, ⟨none, .st 1 (.t 7) (.t 6), none⟩]) (.seq (.reg false
  [⟨some 8, .ld true 1 (.t 3), none⟩, ⟨none, .st 1 (.t 2) (.t 8), none⟩]) .ret)))
theorem hc_laws_toStore : Try.f49.body.bind (comp Try.prog Try.f49.ntmps) = some ac_laws_toStore := by kernel_rfl
theorem k_laws_toStore (a : GStore) (hpre : (totStore a : Int) ≤ 1048576) : SpecO Try.prog 49 [(true, [.sl false [.s [], .i .i64 0, .sl false [.sl false [.i .i64 0, .s []] []] []] (a.Rels.map (GNamed.cells false false))])] [] (.one (true, [.sl true [.s [], .i .i64 0, .sl true [.sl true [.i .i64 0, .s []] []] []] (a.Rels.map (GNamed.cells true true))])) := by
  refine spec_of2 true false none Try.func49 hc_laws_toStore (rvs := [.c 2 true 1]) (hΓ := mkCtx_ok (deep := true) (l := [(127, [], c_laws_toNamedS)]) ⟨c_laws_toNamedS_ok, trivial⟩) (h := ?_)
  intro hb hE
  simp only [go_sem] at hb
  unfold ac_laws_toStore
  (first | refine AX_AW ?_ | skip); simp only [go_sem, reduceIte, reduceCtorEq, Nat.reduceEqDiff, Int.reduceToNat, Nat.reduceAdd, Nat.reduceLeDiff, Nat.reduceMul, Nat.reduceSub, Nat.reduceMod, Nat.reduceDiv, Nat.reduceLT, Nat.reduceBEq, List.reduceReplicate, ← and_assoc]; (repeat' first | apply CJ.mk | intro hc); all_goals try ((repeat' first | apply And.intro | intro hs) <;> (try simp only [go_sem, Bool.and_eq_false_iff] at hs) <;> omega)
  all_goals (simp only [totStore] at *; omega)
noncomputable def c_laws_toStore : List V → Option (Prop × List (Nat × V) × R) := famCt (α := GStore) (fun x => [(true, [.sl false [.s [], .i .i64 0, .sl false [.sl false [.i .i64 0, .s []] []] []] (x.Rels.map (GNamed.cells false false))])]) (fun x => (totStore x : Int) ≤ 1048576) (fun x => []) (fun x => .one (true, [.sl true [.s [], .i .i64 0, .sl true [.sl true [.i .i64 0, .s []] []] []] (x.Rels.map (GNamed.cells true true))]))
@[go_sem] theorem c_laws_toStore_eq (a_Rels : List GNamed) : c_laws_toStore [(true, [.sl false [.s [], .i .i64 0, .sl false [.sl false [.i .i64 0, .s []] []] []] (a_Rels.map (GNamed.cells false false))])] = some ((totStore (GStore.mk a_Rels) : Int) ≤ 1048576, [], .one (true, [.sl true [.s [], .i .i64 0, .sl true [.sl true [.i .i64 0, .s []] []] []] (((GStore.mk a_Rels).Rels).map (GNamed.cells true true))])) := famCt_eq (by rintro ⟨_⟩ ⟨_⟩ h; simp only [List.cons.injEq, Prod.mk.injEq, C.i.injEq, C.s.injEq, C.b.injEq, C.sl.injEq, C.p.injEq, C.mp.injEq, C.f.injEq, true_and, and_true, GNamed_map_inj] at h; simp_all) (GStore.mk a_Rels)
theorem c_laws_toStore_ok : ∀ vs q o r, c_laws_toStore vs = some (q, o, r) → q → SpecO Try.prog 49 vs o r := famCt_ok (fun x h => k_laws_toStore x h)
def ac_laws_toStep : ACode := .seq (.reg false [⟨some 1, .box 4 (.t 0), none⟩, ⟨some 2, .alloc [.s, .sl [.i .i64 0, .s []], .i .i64, .sl [.s [], .i .i64 0, .s []]], none⟩]) (.seq (.reg false
  [⟨some 3, .alloc [.s, .sl [.i .i64 0, .s []], .i .i64, .sl [.s [], .i .i64 0, .s []]], none⟩]) (.seq (.reg false [⟨some 4, .fa 0 (.t 1), none⟩, ⟨some 5, .ld
  false 1 (.t 4), none⟩, ⟨some 6, .fa 0 (.t 3), none⟩, ⟨none, .st 1 (.t 6) (.t 5), none⟩]) (.seq (.reg false [⟨some 7, .fa 1 (.t 1), none⟩, ⟨some 8, .ld true 1
  (.t 7), none⟩, ⟨some 9, .call 38 [.t 8], none⟩, ⟨some 10, .fa 1 (.t 3), none⟩, ⟨none, .st 1 (.t 10) (.t 9), none⟩]) (.seq (.reg false [⟨some 11, .fa 2 (.t 1),
  none⟩, ⟨some 12, .ld false 1 (.t 11), none⟩, ⟨some 13, .fa 2 (.t 3), none⟩, ⟨none, .st 1 (.t 13) (.t 12), none⟩]) (.seq (.reg false [⟨some 14, .fa 3 (.t 1),
  none⟩, ⟨some 15, .ld true 1 (.t 14), none⟩, ⟨some 16, .call 36 [.t 15], none⟩, ⟨some 17, .fa 3 (.t 3), none⟩, ⟨none, .st 1 (.t 17) (.t 16), none⟩]) (.seq
  (.reg false [⟨some 18, .ld true 4 (.t 3), none⟩, ⟨none, .st 4 (.t 2) (.t 18), none⟩]) .ret))))))
theorem hc_laws_toStep : Try.f128.body.bind (comp Try.prog Try.f128.ntmps) = some ac_laws_toStep := by kernel_rfl
theorem k_laws_toStep (a : GStep) (hpre : (totStep a : Int) ≤ 1048576) : SpecO Try.prog 128 [(true, [.s a.Name, .sl false [.i .i64 0, .s []] (a.Row.V.map GValue.cells), .i .i64 a.Rule, .sl false [.s [], .i .i64 0, .s []] (a.Env.Binds.map GBind.cells)])] [] (.one (true, [.s a.Name, .sl true [.i .i64 0, .s []] (a.Row.V.map GValue.cells), .i .i64 a.Rule, .sl true [.s [], .i .i64 0, .s []] (a.Env.Binds.map GBind.cells)])) := by
  refine spec_of2 true false none Try.func128 hc_laws_toStep (rvs := [.c 2 true 4]) (hΓ := mkCtx_ok (deep := true) (l := [(36, [], c_laws_toEnv), (38, [], c_laws_toRow)]) ⟨c_laws_toEnv_ok, c_laws_toRow_ok, trivial⟩) (h := ?_)
  intro hb hE
  simp only [go_sem] at hb
  unfold ac_laws_toStep
  (first | refine AX_AW ?_ | skip); simp only [go_sem, reduceIte, reduceCtorEq, Nat.reduceEqDiff, Int.reduceToNat, Nat.reduceAdd, Nat.reduceLeDiff, Nat.reduceMul, Nat.reduceSub, Nat.reduceMod, Nat.reduceDiv, Nat.reduceLT, Nat.reduceBEq, List.reduceReplicate, ← and_assoc]; (repeat' first | apply CJ.mk | intro hc); all_goals try ((repeat' first | apply And.intro | intro hs) <;> (try simp only [go_sem, Bool.and_eq_false_iff] at hs) <;> omega)
  all_goals (simp only [totStep] at *; omega)
noncomputable def c_laws_toStep : List V → Option (Prop × List (Nat × V) × R) := famCt (α := GStep) (fun x => [(true, [.s x.Name, .sl false [.i .i64 0, .s []] (x.Row.V.map GValue.cells), .i .i64 x.Rule, .sl false [.s [], .i .i64 0, .s []] (x.Env.Binds.map GBind.cells)])]) (fun x => (totStep x : Int) ≤ 1048576) (fun x => []) (fun x => .one (true, [.s x.Name, .sl true [.i .i64 0, .s []] (x.Row.V.map GValue.cells), .i .i64 x.Rule, .sl true [.s [], .i .i64 0, .s []] (x.Env.Binds.map GBind.cells)]))
@[go_sem] theorem c_laws_toStep_eq (a_Name : List UInt8) (a_Row_V : List GValue) (a_Rule : Int) (a_Env_Binds : List GBind) : c_laws_toStep [(true, [.s a_Name, .sl false [.i .i64 0, .s []] (a_Row_V.map GValue.cells), .i .i64 a_Rule, .sl false [.s [], .i .i64 0, .s []] (a_Env_Binds.map GBind.cells)])] = some ((totStep (GStep.mk a_Name (GRow.mk a_Row_V) a_Rule (GEnv.mk a_Env_Binds)) : Int) ≤ 1048576, [], .one (true, [.s ((GStep.mk a_Name (GRow.mk a_Row_V) a_Rule (GEnv.mk a_Env_Binds)).Name), .sl true [.i .i64 0, .s []] ((((GStep.mk a_Name (GRow.mk a_Row_V) a_Rule (GEnv.mk a_Env_Binds)).Row).V).map GValue.cells), .i .i64 ((GStep.mk a_Name (GRow.mk a_Row_V) a_Rule (GEnv.mk a_Env_Binds)).Rule), .sl true [.s [], .i .i64 0, .s []] ((((GStep.mk a_Name (GRow.mk a_Row_V) a_Rule (GEnv.mk a_Env_Binds)).Env).Binds).map GBind.cells)])) := famCt_eq (by rintro ⟨_, ⟨_⟩, _, ⟨_⟩⟩ ⟨_, ⟨_⟩, _, ⟨_⟩⟩ h; simp only [List.cons.injEq, Prod.mk.injEq, C.i.injEq, C.s.injEq, C.b.injEq, C.sl.injEq, C.p.injEq, C.mp.injEq, C.f.injEq, true_and, and_true, GBind_map_inj, GValue_map_inj] at h; simp_all) (GStep.mk a_Name (GRow.mk a_Row_V) a_Rule (GEnv.mk a_Env_Binds))
theorem c_laws_toStep_ok : ∀ vs q o r, c_laws_toStep vs = some (q, o, r) → q → SpecO Try.prog 128 vs o r := famCt_ok (fun x h => k_laws_toStep x h)
def ac_laws_toStepS : ACode := .seq (.reg false [⟨some 2, .mov (.k (.v false [.nl [.s [], .sl false [.i .i64 0, .s []] [], .i .i64 0, .sl false [.s [], .i .i64 0, .s []] []]])), none⟩]) (.seq
  (.reg false [⟨some 5, .mov (.t 0), none⟩, ⟨some 6, .len (.t 5), none⟩, ⟨some 7, .mks 4 72 [.s, .sl [.i .i64 0, .s []], .i .i64, .sl [.s [], .i .i64 0, .s []]]
  (.t 6) (.t 6), none⟩, ⟨some 3, .mov (.t 7), none⟩]) (.seq (.seq (.reg false [⟨some 4, .mov (.k (.v false [.c (.i .i64 0)])), none⟩]) (.block 0 (.loop (.seq
  (.seq (.reg false [⟨some 8, .mov (.t 4), none⟩, ⟨some 9, .mov (.t 0), none⟩, ⟨some 10, .len (.t 9), none⟩, ⟨some 11, .bin .lss (.t 8) (.t 10), none⟩]) (.cond
  (.t 11) .skip (.exit 0))) (.seq (.block 1 (.reg false [⟨some 14, .mov (.t 3), none⟩, ⟨some 15, .mov (.t 4), none⟩, ⟨some 16, .mov (.t 0), none⟩, ⟨some 17,
  .mov (.t 4), none⟩, ⟨some 18, .ia 4 (.t 16) (.t 17), none⟩, ⟨some 19, .ld true 4 (.t 18), none⟩, ⟨some 20, .call 128 [.t 19], none⟩, ⟨some 21, .ia 4 (.t 14)
  (.t 15), none⟩, ⟨none, .st 4 (.t 21) (.t 20), none⟩])) (.reg false [⟨some 12, .mov (.t 4), none⟩, ⟨some 13, .bin .add (.t 12) (.k (.v false [.c (.i .i64
  1)])), none⟩, ⟨some 4, .mov (.t 13), none⟩])))))) (.seq (.reg false [⟨some 22, .mov (.t 3), none⟩, ⟨some 2, .mov (.t 22), none⟩]) .ret)))
theorem hc_laws_toStepS : Try.f50.body.bind (comp Try.prog Try.f50.ntmps) = some ac_laws_toStepS := by kernel_rfl
theorem k_laws_toStepS (a : List GStep) (hpre : (((a.length + tots totStep a) : Nat) : Int) ≤ 1048576) : SpecO Try.prog 50 [(false, [.sl false [.s [], .sl false [.i .i64 0, .s []] [], .i .i64 0, .sl false [.s [], .i .i64 0, .s []] []] (a.map (GStep.cells false false))])] [] (.one (false, [.sl true [.s [], .sl true [.i .i64 0, .s []] [], .i .i64 0, .sl true [.s [], .i .i64 0, .s []] []] (a.map (GStep.cells true true))])) := by
  refine spec_of2 true false none Try.func50 hc_laws_toStepS (rvs := [.t 2]) (hΓ := mkCtx_ok (deep := true) (l := [(128, [], c_laws_toStep)]) ⟨c_laws_toStep_ok, trivial⟩) (h := ?_)
  intro hb hE
  simp only [go_sem] at hb
  unfold ac_laws_toStepS
  (first | refine AX_AW ?_ | skip); simp only [go_sem, reduceIte, reduceCtorEq, Nat.reduceEqDiff, Int.reduceToNat, Nat.reduceAdd, Nat.reduceLeDiff, Nat.reduceMul, Nat.reduceSub, Nat.reduceMod, Nat.reduceDiv, Nat.reduceLT, Nat.reduceBEq, List.reduceReplicate, ← and_assoc, GStep_rep]; (repeat' first | apply CJ.mk | intro hc); all_goals try ((repeat' first | apply And.intro | intro hs) <;> (try simp only [go_sem, Bool.and_eq_false_iff] at hs) <;> omega)
  refine aw_loop2 true [] [0, 3] [] [] (fun i : {p : Nat × (List GStep) // p.1 ≤ a.length ∧ p.2.length = a.length ∧ p.2.take p.1 = a.take p.1} => [(4, slV (.i .i64 i.1.1))]) (fun i => []) (fun i => [(896, [.s [], .sl true [.i .i64 0, .s []] [], .i .i64 0, .sl true [.s [], .i .i64 0, .s []] []], i.1.2.map (GStep.cells true true))]) (fun i => a.length - i.1.1) (⟨(0, List.replicate a.length default), by simp⟩) _ rfl ?_ ?_
  · simp only [go_sem, reduceIte, reduceCtorEq, Nat.reduceEqDiff, Int.reduceToNat, Nat.reduceAdd, Nat.reduceLeDiff, Nat.reduceMul, Nat.reduceSub, Nat.reduceMod, Nat.reduceDiv, Nat.reduceLT, Nat.reduceBEq, List.reduceReplicate, ← and_assoc, GStep_rep]
    all_goals first | omega | ((repeat' apply And.intro) <;> first | omega | rfl | skip)
  intro S0 hS0 i
  simp only [go_sem, reduceIte, reduceCtorEq, Nat.reduceEqDiff, Int.reduceToNat, Nat.reduceAdd, Nat.reduceLeDiff, Nat.reduceMul, Nat.reduceSub, Nat.reduceMod, Nat.reduceDiv, Nat.reduceLT, Nat.reduceBEq, List.reduceReplicate, ← and_assoc, GStep_rep] at hS0
  obtain ⟨⟨i, L⟩, hi, hl, ht⟩ := i
  simp only at hi hl ht
  have hg := tots_getD totStep a i default rfl
  (first | refine AX_AW ?_ | skip); simp only [go_sem, reduceIte, reduceCtorEq, Nat.reduceEqDiff, Int.reduceToNat, Nat.reduceAdd, Nat.reduceLeDiff, Nat.reduceMul, Nat.reduceSub, Nat.reduceMod, Nat.reduceDiv, Nat.reduceLT, Nat.reduceBEq, List.reduceReplicate, ← and_assoc, GStep_rep, hS0]; (repeat' first | apply CJ.mk | intro hc); all_goals try ((repeat' first | apply And.intro | intro hs) <;> (try simp only [go_sem, Bool.and_eq_false_iff] at hs) <;> omega)
  · (refine lpK_n2 (⟨(i + 1, L.set i (a.getD i default)), by simp only; omega, by simp [hl], take_set_succ hl ht (by omega)⟩) _ rfl ?_; simp only [go_sem, reduceIte, reduceCtorEq, Nat.reduceEqDiff, Int.reduceToNat, Nat.reduceAdd, Nat.reduceLeDiff, Nat.reduceMul, Nat.reduceSub, Nat.reduceMod, Nat.reduceDiv, Nat.reduceLT, Nat.reduceBEq, List.reduceReplicate, ← and_assoc, GStep_rep, hS0]; first | done | ((repeat' apply And.intro) <;> first | omega | (refine w64 ?_ ?_ ?_ <;> omega) | rfl | skip))
  · obtain rfl := eq_of_take hl ht (by omega)
    rfl
  all_goals trace_state
noncomputable def c_laws_toStepS : List V → Option (Prop × List (Nat × V) × R) := famCt (α := (List GStep)) (fun x => [(false, [.sl false [.s [], .sl false [.i .i64 0, .s []] [], .i .i64 0, .sl false [.s [], .i .i64 0, .s []] []] (x.map (GStep.cells false false))])]) (fun x => (((x.length + tots totStep x) : Nat) : Int) ≤ 1048576) (fun x => []) (fun x => .one (false, [.sl true [.s [], .sl true [.i .i64 0, .s []] [], .i .i64 0, .sl true [.s [], .i .i64 0, .s []] []] (x.map (GStep.cells true true))]))
@[go_sem] theorem c_laws_toStepS_eq (a : List GStep) : c_laws_toStepS [(false, [.sl false [.s [], .sl false [.i .i64 0, .s []] [], .i .i64 0, .sl false [.s [], .i .i64 0, .s []] []] (a.map (GStep.cells false false))])] = some ((((a.length + tots totStep a) : Nat) : Int) ≤ 1048576, [], .one (false, [.sl true [.s [], .sl true [.i .i64 0, .s []] [], .i .i64 0, .sl true [.s [], .i .i64 0, .s []] []] (a.map (GStep.cells true true))])) := famCt_eq (by intro x y h; simp only [List.cons.injEq, Prod.mk.injEq, C.i.injEq, C.s.injEq, C.b.injEq, C.sl.injEq, C.p.injEq, C.mp.injEq, C.f.injEq, true_and, and_true, GStep_map_inj] at h; simp_all) a
theorem c_laws_toStepS_ok : ∀ vs q o r, c_laws_toStepS vs = some (q, o, r) → q → SpecO Try.prog 50 vs o r := famCt_ok (fun x h => k_laws_toStepS x h)
def ac_laws_eqValueS : ACode := .seq (.reg false [⟨some 4, .mov (.k (.v false [.c (.b false)])), none⟩]) (.seq (.seq (.reg false [⟨some 6, .mov (.t 0), none⟩, ⟨some 7, .len (.t 6), none⟩,
  ⟨some 8, .mov (.t 1), none⟩, ⟨some 9, .len (.t 8), none⟩, ⟨some 10, .bin .neq (.t 7) (.t 9), none⟩]) (.cond (.t 10) (.seq (.reg false [⟨some 4, .mov (.k (.v
  false [.c (.b false)])), none⟩]) .ret) .skip)) (.seq (.seq (.reg false [⟨some 5, .mov (.k (.v false [.c (.i .i64 0)])), none⟩]) (.block 0 (.loop (.seq (.seq
  (.reg false [⟨some 11, .mov (.t 5), none⟩, ⟨some 12, .mov (.t 0), none⟩, ⟨some 13, .len (.t 12), none⟩, ⟨some 14, .bin .lss (.t 11) (.t 13), none⟩]) (.cond
  (.t 14) .skip (.exit 0))) (.seq (.block 1 (.seq (.reg true [⟨some 17, .mov (.t 0), none⟩, ⟨some 18, .mov (.t 5), none⟩, ⟨some 19, .ia 2 (.t 17) (.t 18),
  none⟩, ⟨some 20, .ld true 2 (.t 19), none⟩, ⟨some 21, .mov (.t 1), none⟩, ⟨some 22, .mov (.t 5), none⟩, ⟨some 23, .ia 2 (.t 21) (.t 22), none⟩, ⟨some 24, .ld
  true 2 (.t 23), none⟩, ⟨some 25, .call 200 [.t 20, .t 24], none⟩, ⟨some 26, .not (.t 25), none⟩]) (.cond (.t 26) (.seq (.reg false [⟨some 4, .mov (.k (.v
  false [.c (.b false)])), none⟩]) .ret) .skip))) (.reg false [⟨some 15, .mov (.t 5), none⟩, ⟨some 16, .bin .add (.t 15) (.k (.v false [.c (.i .i64 1)])),
  none⟩, ⟨some 5, .mov (.t 16), none⟩])))))) (.seq (.reg false [⟨some 4, .mov (.k (.v false [.c (.b true)])), none⟩]) .ret)))
theorem hc_laws_eqValueS : Try.f116.body.bind (comp Try.prog Try.f116.ntmps) = some ac_laws_eqValueS := by kernel_rfl
theorem k_laws_eqValueS (a : List GValue) (b : List GValue) : SpecO Try.prog 116 [(false, [.sl false [.i .i64 0, .s []] (a.map GValue.cells)]), (false, [.sl false [.i .i64 0, .s []] (b.map GValue.cells)])] [] (.one (false, [.b (decide (a = b))])) := by
  refine spec_of2 false false none Try.func116 hc_laws_eqValueS (rvs := [.t 4]) (hΓ := mkCtx_ok (deep := false) (l := [(200, [], c_laws_eqValue)]) ⟨c_laws_eqValue_ok, trivial⟩) (h := ?_)
  intro hb hE
  simp only [go_sem] at hb
  unfold ac_laws_eqValueS
  (first | refine AX_AW ?_ | skip); simp only [go_sem, reduceIte, reduceCtorEq, Nat.reduceEqDiff, Int.reduceToNat, Nat.reduceAdd, Nat.reduceLeDiff, Nat.reduceMul, Nat.reduceSub, Nat.reduceMod, Nat.reduceDiv, Nat.reduceLT, Nat.reduceBEq, List.reduceReplicate, ← and_assoc]; (repeat' first | apply CJ.mk | intro hc); all_goals try ((repeat' first | apply And.intro | intro hs) <;> (try simp only [go_sem, Bool.and_eq_false_iff] at hs) <;> omega)
  · symm
    rw [decide_eq_false_iff_not]
    rintro rfl
    simp at hc
  have hl : a.length = b.length := by simpa [Int.ofNat_inj] using hc
  refine aw_loop2 false [] [0, 1] [] [] (fun i : {i : Nat // i ≤ a.length ∧ a.take i = b.take i} => [(5, slV (.i .i64 i.1))]) (fun i => []) (fun i => []) (fun i => a.length - i.1) (⟨0, by simp⟩) _ rfl ?_ ?_
  · simp only [go_sem, reduceIte, reduceCtorEq, Nat.reduceEqDiff, Int.reduceToNat, Nat.reduceAdd, Nat.reduceLeDiff, Nat.reduceMul, Nat.reduceSub, Nat.reduceMod, Nat.reduceDiv, Nat.reduceLT, Nat.reduceBEq, List.reduceReplicate, ← and_assoc]
    all_goals first | omega | ((repeat' apply And.intro) <;> first | omega | rfl | skip)
  intro S0 hS0 i
  simp only [go_sem, reduceIte, reduceCtorEq, Nat.reduceEqDiff, Int.reduceToNat, Nat.reduceAdd, Nat.reduceLeDiff, Nat.reduceMul, Nat.reduceSub, Nat.reduceMod, Nat.reduceDiv, Nat.reduceLT, Nat.reduceBEq, List.reduceReplicate, ← and_assoc] at hS0
  obtain ⟨i, hi, ht⟩ := i
  (first | refine AX_AW ?_ | skip); simp only [go_sem, reduceIte, reduceCtorEq, Nat.reduceEqDiff, Int.reduceToNat, Nat.reduceAdd, Nat.reduceLeDiff, Nat.reduceMul, Nat.reduceSub, Nat.reduceMod, Nat.reduceDiv, Nat.reduceLT, Nat.reduceBEq, List.reduceReplicate, ← and_assoc, hS0]; (repeat' first | apply CJ.mk | intro hc); all_goals try ((repeat' first | apply And.intro | intro hs) <;> (try simp only [go_sem, Bool.and_eq_false_iff] at hs) <;> omega)
  · exact (decide_eq_false (ne_of_getD default (i := i) (by simpa using hc))).symm
  · (refine lpK_n2 (⟨i + 1, by omega, take_succ_eq ht (by omega) (by omega) (d := default) (by simpa using hc)⟩) _ rfl ?_; simp only [go_sem, reduceIte, reduceCtorEq, Nat.reduceEqDiff, Int.reduceToNat, Nat.reduceAdd, Nat.reduceLeDiff, Nat.reduceMul, Nat.reduceSub, Nat.reduceMod, Nat.reduceDiv, Nat.reduceLT, Nat.reduceBEq, List.reduceReplicate, ← and_assoc, hS0]; first | done | ((repeat' apply And.intro) <;> first | omega | (refine w64 ?_ ?_ ?_ <;> omega) | rfl | skip))
  · exact (decide_eq_true (eq_of_take hl ht (by omega))).symm
  all_goals trace_state
noncomputable def c_laws_eqValueS : List V → Option (Prop × List (Nat × V) × R) := famCt (α := (List GValue) × (List GValue)) (fun x => [(false, [.sl false [.i .i64 0, .s []] (x.1.map GValue.cells)]), (false, [.sl false [.i .i64 0, .s []] (x.2.map GValue.cells)])]) (fun x => True) (fun x => []) (fun x => .one (false, [.b (decide (x.1 = x.2))]))
@[go_sem] theorem c_laws_eqValueS_eq (a : List GValue) (b : List GValue) : c_laws_eqValueS [(false, [.sl false [.i .i64 0, .s []] (a.map GValue.cells)]), (false, [.sl false [.i .i64 0, .s []] (b.map GValue.cells)])] = some (True, [], .one (false, [.b (decide (a = b))])) := famCt_eq (by rintro ⟨_, _⟩ ⟨_, _⟩ h; simp only [List.cons.injEq, Prod.mk.injEq, C.i.injEq, C.s.injEq, C.b.injEq, C.sl.injEq, C.p.injEq, C.mp.injEq, C.f.injEq, true_and, and_true, GValue_map_inj] at h; simp_all) (a, b)
theorem c_laws_eqValueS_ok : ∀ vs q o r, c_laws_eqValueS vs = some (q, o, r) → q → SpecO Try.prog 116 vs o r := famCt_ok (fun x h => k_laws_eqValueS x.1 x.2)
def ac_laws_eqRow : ACode := .seq (.reg false [⟨some 2, .box 1 (.t 0), none⟩, ⟨some 3, .box 1 (.t 1), none⟩, ⟨some 4, .mov (.k (.v false [.c (.b false)])), none⟩]) (.seq (.seq (.reg false
  [⟨some 5, .fa 0 (.t 2), none⟩, ⟨some 6, .ld false 1 (.t 5), none⟩, ⟨some 7, .fa 0 (.t 3), none⟩, ⟨some 8, .ld false 1 (.t 7), none⟩, ⟨some 9, .call 116 [.t 6,
  .t 8], none⟩, ⟨some 10, .not (.t 9), none⟩]) (.cond (.t 10) (.seq (.reg false [⟨some 4, .mov (.k (.v false [.c (.b false)])), none⟩]) .ret) .skip)) (.seq
  (.reg false [⟨some 4, .mov (.k (.v false [.c (.b true)])), none⟩]) .ret))
theorem hc_laws_eqRow : Try.f41.body.bind (comp Try.prog Try.f41.ntmps) = some ac_laws_eqRow := by kernel_rfl
theorem k_laws_eqRow (a : GRow) (b : GRow) : SpecO Try.prog 41 [(true, [.sl false [.i .i64 0, .s []] (a.V.map GValue.cells)]), (true, [.sl false [.i .i64 0, .s []] (b.V.map GValue.cells)])] [] (.one (false, [.b (decide (a = b))])) := by
  refine spec_of2 false false none Try.func41 hc_laws_eqRow (rvs := [.t 4]) (hΓ := mkCtx_ok (deep := false) (l := [(116, [], c_laws_eqValueS)]) ⟨c_laws_eqValueS_ok, trivial⟩) (h := ?_)
  intro hb hE
  simp only [go_sem] at hb
  unfold ac_laws_eqRow
  (first | refine AX_AW ?_ | skip); simp only [go_sem, reduceIte, reduceCtorEq, Nat.reduceEqDiff, Int.reduceToNat, Nat.reduceAdd, Nat.reduceLeDiff, Nat.reduceMul, Nat.reduceSub, Nat.reduceMod, Nat.reduceDiv, Nat.reduceLT, Nat.reduceBEq, List.reduceReplicate, ← and_assoc]; (repeat' first | apply CJ.mk | intro hc); all_goals try ((repeat' first | apply And.intro | intro hs) <;> (try simp only [go_sem, Bool.and_eq_false_iff] at hs) <;> omega)
  all_goals (cases a; cases b; simp_all)
noncomputable def c_laws_eqRow : List V → Option (Prop × List (Nat × V) × R) := famCt (α := GRow × GRow) (fun x => [(true, [.sl false [.i .i64 0, .s []] (x.1.V.map GValue.cells)]), (true, [.sl false [.i .i64 0, .s []] (x.2.V.map GValue.cells)])]) (fun x => True) (fun x => []) (fun x => .one (false, [.b (decide (x.1 = x.2))]))
@[go_sem] theorem c_laws_eqRow_eq (a_V : List GValue) (b_V : List GValue) : c_laws_eqRow [(true, [.sl false [.i .i64 0, .s []] (a_V.map GValue.cells)]), (true, [.sl false [.i .i64 0, .s []] (b_V.map GValue.cells)])] = some (True, [], .one (false, [.b (decide ((GRow.mk a_V) = (GRow.mk b_V)))])) := famCt_eq (by rintro ⟨⟨_⟩, ⟨_⟩⟩ ⟨⟨_⟩, ⟨_⟩⟩ h; simp only [List.cons.injEq, Prod.mk.injEq, C.i.injEq, C.s.injEq, C.b.injEq, C.sl.injEq, C.p.injEq, C.mp.injEq, C.f.injEq, true_and, and_true, GValue_map_inj] at h; simp_all) ((GRow.mk a_V), (GRow.mk b_V))
theorem c_laws_eqRow_ok : ∀ vs q o r, c_laws_eqRow vs = some (q, o, r) → q → SpecO Try.prog 41 vs o r := famCt_ok (fun x h => k_laws_eqRow x.1 x.2)
def ac_laws_eqRowS : ACode := .seq (.reg false [⟨some 4, .mov (.k (.v false [.c (.b false)])), none⟩]) (.seq (.seq (.reg false [⟨some 6, .mov (.t 0), none⟩, ⟨some 7, .len (.t 6), none⟩,
  ⟨some 8, .mov (.t 1), none⟩, ⟨some 9, .len (.t 8), none⟩, ⟨some 10, .bin .neq (.t 7) (.t 9), none⟩]) (.cond (.t 10) (.seq (.reg false [⟨some 4, .mov (.k (.v
  false [.c (.b false)])), none⟩]) .ret) .skip)) (.seq (.seq (.reg false [⟨some 5, .mov (.k (.v false [.c (.i .i64 0)])), none⟩]) (.block 0 (.loop (.seq (.seq
  (.reg false [⟨some 11, .mov (.t 5), none⟩, ⟨some 12, .mov (.t 0), none⟩, ⟨some 13, .len (.t 12), none⟩, ⟨some 14, .bin .lss (.t 11) (.t 13), none⟩]) (.cond
  (.t 14) .skip (.exit 0))) (.seq (.block 1 (.seq (.reg true [⟨some 17, .mov (.t 0), none⟩, ⟨some 18, .mov (.t 5), none⟩, ⟨some 19, .ia 1 (.t 17) (.t 18),
  none⟩, ⟨some 20, .ld true 1 (.t 19), none⟩, ⟨some 21, .mov (.t 1), none⟩, ⟨some 22, .mov (.t 5), none⟩, ⟨some 23, .ia 1 (.t 21) (.t 22), none⟩, ⟨some 24, .ld
  true 1 (.t 23), none⟩, ⟨some 25, .call 41 [.t 20, .t 24], none⟩, ⟨some 26, .not (.t 25), none⟩]) (.cond (.t 26) (.seq (.reg false [⟨some 4, .mov (.k (.v false
  [.c (.b false)])), none⟩]) .ret) .skip))) (.reg false [⟨some 15, .mov (.t 5), none⟩, ⟨some 16, .bin .add (.t 15) (.k (.v false [.c (.i .i64 1)])), none⟩,
  ⟨some 5, .mov (.t 16), none⟩])))))) (.seq (.reg false [⟨some 4, .mov (.k (.v false [.c (.b true)])), none⟩]) .ret)))
theorem hc_laws_eqRowS : Try.f292.body.bind (comp Try.prog Try.f292.ntmps) = some ac_laws_eqRowS := by kernel_rfl
theorem k_laws_eqRowS (a : List GRow) (b : List GRow) : SpecO Try.prog 292 [(false, [.sl false [.sl false [.i .i64 0, .s []] []] (a.map (GRow.cells false false))]), (false, [.sl false [.sl false [.i .i64 0, .s []] []] (b.map (GRow.cells false false))])] [] (.one (false, [.b (decide (a = b))])) := by
  refine spec_of2 false false none Try.func292 hc_laws_eqRowS (rvs := [.t 4]) (hΓ := mkCtx_ok (deep := false) (l := [(41, [], c_laws_eqRow)]) ⟨c_laws_eqRow_ok, trivial⟩) (h := ?_)
  intro hb hE
  simp only [go_sem] at hb
  unfold ac_laws_eqRowS
  (first | refine AX_AW ?_ | skip); simp only [go_sem, reduceIte, reduceCtorEq, Nat.reduceEqDiff, Int.reduceToNat, Nat.reduceAdd, Nat.reduceLeDiff, Nat.reduceMul, Nat.reduceSub, Nat.reduceMod, Nat.reduceDiv, Nat.reduceLT, Nat.reduceBEq, List.reduceReplicate, ← and_assoc]; (repeat' first | apply CJ.mk | intro hc); all_goals try ((repeat' first | apply And.intro | intro hs) <;> (try simp only [go_sem, Bool.and_eq_false_iff] at hs) <;> omega)
  · symm
    rw [decide_eq_false_iff_not]
    rintro rfl
    simp at hc
  have hl : a.length = b.length := by simpa [Int.ofNat_inj] using hc
  refine aw_loop2 false [] [0, 1] [] [] (fun i : {i : Nat // i ≤ a.length ∧ a.take i = b.take i} => [(5, slV (.i .i64 i.1))]) (fun i => []) (fun i => []) (fun i => a.length - i.1) (⟨0, by simp⟩) _ rfl ?_ ?_
  · simp only [go_sem, reduceIte, reduceCtorEq, Nat.reduceEqDiff, Int.reduceToNat, Nat.reduceAdd, Nat.reduceLeDiff, Nat.reduceMul, Nat.reduceSub, Nat.reduceMod, Nat.reduceDiv, Nat.reduceLT, Nat.reduceBEq, List.reduceReplicate, ← and_assoc]
    all_goals first | omega | ((repeat' apply And.intro) <;> first | omega | rfl | skip)
  intro S0 hS0 i
  simp only [go_sem, reduceIte, reduceCtorEq, Nat.reduceEqDiff, Int.reduceToNat, Nat.reduceAdd, Nat.reduceLeDiff, Nat.reduceMul, Nat.reduceSub, Nat.reduceMod, Nat.reduceDiv, Nat.reduceLT, Nat.reduceBEq, List.reduceReplicate, ← and_assoc] at hS0
  obtain ⟨i, hi, ht⟩ := i
  (first | refine AX_AW ?_ | skip); simp only [go_sem, reduceIte, reduceCtorEq, Nat.reduceEqDiff, Int.reduceToNat, Nat.reduceAdd, Nat.reduceLeDiff, Nat.reduceMul, Nat.reduceSub, Nat.reduceMod, Nat.reduceDiv, Nat.reduceLT, Nat.reduceBEq, List.reduceReplicate, ← and_assoc, hS0]; (repeat' first | apply CJ.mk | intro hc); all_goals try ((repeat' first | apply And.intro | intro hs) <;> (try simp only [go_sem, Bool.and_eq_false_iff] at hs) <;> omega)
  · exact (decide_eq_false (ne_of_getD default (i := i) (by simpa using hc))).symm
  · (refine lpK_n2 (⟨i + 1, by omega, take_succ_eq ht (by omega) (by omega) (d := default) (by simpa using hc)⟩) _ rfl ?_; simp only [go_sem, reduceIte, reduceCtorEq, Nat.reduceEqDiff, Int.reduceToNat, Nat.reduceAdd, Nat.reduceLeDiff, Nat.reduceMul, Nat.reduceSub, Nat.reduceMod, Nat.reduceDiv, Nat.reduceLT, Nat.reduceBEq, List.reduceReplicate, ← and_assoc, hS0]; first | done | ((repeat' apply And.intro) <;> first | omega | (refine w64 ?_ ?_ ?_ <;> omega) | rfl | skip))
  · exact (decide_eq_true (eq_of_take hl ht (by omega))).symm
  all_goals trace_state
noncomputable def c_laws_eqRowS : List V → Option (Prop × List (Nat × V) × R) := famCt (α := (List GRow) × (List GRow)) (fun x => [(false, [.sl false [.sl false [.i .i64 0, .s []] []] (x.1.map (GRow.cells false false))]), (false, [.sl false [.sl false [.i .i64 0, .s []] []] (x.2.map (GRow.cells false false))])]) (fun x => True) (fun x => []) (fun x => .one (false, [.b (decide (x.1 = x.2))]))
@[go_sem] theorem c_laws_eqRowS_eq (a : List GRow) (b : List GRow) : c_laws_eqRowS [(false, [.sl false [.sl false [.i .i64 0, .s []] []] (a.map (GRow.cells false false))]), (false, [.sl false [.sl false [.i .i64 0, .s []] []] (b.map (GRow.cells false false))])] = some (True, [], .one (false, [.b (decide (a = b))])) := famCt_eq (by rintro ⟨_, _⟩ ⟨_, _⟩ h; simp only [List.cons.injEq, Prod.mk.injEq, C.i.injEq, C.s.injEq, C.b.injEq, C.sl.injEq, C.p.injEq, C.mp.injEq, C.f.injEq, true_and, and_true, GRow_map_inj] at h; simp_all) (a, b)
theorem c_laws_eqRowS_ok : ∀ vs q o r, c_laws_eqRowS vs = some (q, o, r) → q → SpecO Try.prog 292 vs o r := famCt_ok (fun x h => k_laws_eqRowS x.1 x.2)
def ac_laws_eqRel : ACode := .seq (.reg false [⟨some 2, .box 2 (.t 0), none⟩, ⟨some 3, .box 2 (.t 1), none⟩, ⟨some 4, .mov (.k (.v false [.c (.b false)])), none⟩]) (.seq (.seq (.reg false
  [⟨some 5, .fa 0 (.t 2), none⟩, ⟨some 6, .ld false 1 (.t 5), none⟩, ⟨some 7, .fa 0 (.t 3), none⟩, ⟨some 8, .ld false 1 (.t 7), none⟩, ⟨some 9, .bin .neq (.t 6)
  (.t 8), none⟩]) (.cond (.t 9) (.seq (.reg false [⟨some 4, .mov (.k (.v false [.c (.b false)])), none⟩]) .ret) .skip)) (.seq (.seq (.reg false [⟨some 10, .fa 1
  (.t 2), none⟩, ⟨some 11, .ld false 1 (.t 10), none⟩, ⟨some 12, .fa 1 (.t 3), none⟩, ⟨some 13, .ld false 1 (.t 12), none⟩, ⟨some 14, .call 292 [.t 11, .t 13],
  none⟩, ⟨some 15, .not (.t 14), none⟩]) (.cond (.t 15) (.seq (.reg false [⟨some 4, .mov (.k (.v false [.c (.b false)])), none⟩]) .ret) .skip)) (.seq (.reg
  false [⟨some 4, .mov (.k (.v false [.c (.b true)])), none⟩]) .ret)))
theorem hc_laws_eqRel : Try.f272.body.bind (comp Try.prog Try.f272.ntmps) = some ac_laws_eqRel := by kernel_rfl
theorem k_laws_eqRel (a : GRel) (b : GRel) : SpecO Try.prog 272 [(true, [.i .i64 a.Arity, .sl false [.sl false [.i .i64 0, .s []] []] (a.Rows.map (GRow.cells false false))]), (true, [.i .i64 b.Arity, .sl false [.sl false [.i .i64 0, .s []] []] (b.Rows.map (GRow.cells false false))])] [] (.one (false, [.b (decide (a = b))])) := by
  refine spec_of2 false false none Try.func272 hc_laws_eqRel (rvs := [.t 4]) (hΓ := mkCtx_ok (deep := false) (l := [(292, [], c_laws_eqRowS)]) ⟨c_laws_eqRowS_ok, trivial⟩) (h := ?_)
  intro hb hE
  simp only [go_sem] at hb
  unfold ac_laws_eqRel
  (first | refine AX_AW ?_ | skip); simp only [go_sem, reduceIte, reduceCtorEq, Nat.reduceEqDiff, Int.reduceToNat, Nat.reduceAdd, Nat.reduceLeDiff, Nat.reduceMul, Nat.reduceSub, Nat.reduceMod, Nat.reduceDiv, Nat.reduceLT, Nat.reduceBEq, List.reduceReplicate, ← and_assoc]; (repeat' first | apply CJ.mk | intro hc); all_goals try ((repeat' first | apply And.intro | intro hs) <;> (try simp only [go_sem, Bool.and_eq_false_iff] at hs) <;> omega)
  all_goals (cases a; cases b; simp_all)
noncomputable def c_laws_eqRel : List V → Option (Prop × List (Nat × V) × R) := famCt (α := GRel × GRel) (fun x => [(true, [.i .i64 x.1.Arity, .sl false [.sl false [.i .i64 0, .s []] []] (x.1.Rows.map (GRow.cells false false))]), (true, [.i .i64 x.2.Arity, .sl false [.sl false [.i .i64 0, .s []] []] (x.2.Rows.map (GRow.cells false false))])]) (fun x => True) (fun x => []) (fun x => .one (false, [.b (decide (x.1 = x.2))]))
@[go_sem] theorem c_laws_eqRel_eq (a_Arity : Int) (a_Rows : List GRow) (b_Arity : Int) (b_Rows : List GRow) : c_laws_eqRel [(true, [.i .i64 a_Arity, .sl false [.sl false [.i .i64 0, .s []] []] (a_Rows.map (GRow.cells false false))]), (true, [.i .i64 b_Arity, .sl false [.sl false [.i .i64 0, .s []] []] (b_Rows.map (GRow.cells false false))])] = some (True, [], .one (false, [.b (decide ((GRel.mk a_Arity a_Rows) = (GRel.mk b_Arity b_Rows)))])) := famCt_eq (by rintro ⟨⟨_, _⟩, ⟨_, _⟩⟩ ⟨⟨_, _⟩, ⟨_, _⟩⟩ h; simp only [List.cons.injEq, Prod.mk.injEq, C.i.injEq, C.s.injEq, C.b.injEq, C.sl.injEq, C.p.injEq, C.mp.injEq, C.f.injEq, true_and, and_true, GRow_map_inj] at h; simp_all) ((GRel.mk a_Arity a_Rows), (GRel.mk b_Arity b_Rows))
theorem c_laws_eqRel_ok : ∀ vs q o r, c_laws_eqRel vs = some (q, o, r) → q → SpecO Try.prog 272 vs o r := famCt_ok (fun x h => k_laws_eqRel x.1 x.2)
def ac_laws_eqNamed : ACode := .seq (.reg false [⟨some 2, .box 3 (.t 0), none⟩, ⟨some 3, .box 3 (.t 1), none⟩, ⟨some 4, .mov (.k (.v false [.c (.b false)])), none⟩]) (.seq (.seq (.reg false
  [⟨some 5, .fa 0 (.t 2), none⟩, ⟨some 6, .ld false 1 (.t 5), none⟩, ⟨some 7, .fa 0 (.t 3), none⟩, ⟨some 8, .ld false 1 (.t 7), none⟩, ⟨some 9, .bin .neq (.t 6)
  (.t 8), none⟩]) (.cond (.t 9) (.seq (.reg false [⟨some 4, .mov (.k (.v false [.c (.b false)])), none⟩]) .ret) .skip)) (.seq (.seq (.reg false [⟨some 10, .fa 1
  (.t 2), none⟩, ⟨some 11, .ld true 2 (.t 10), none⟩, ⟨some 12, .fa 1 (.t 3), none⟩, ⟨some 13, .ld true 2 (.t 12), none⟩, ⟨some 14, .call 272 [.t 11, .t 13],
  none⟩, ⟨some 15, .not (.t 14), none⟩]) (.cond (.t 15) (.seq (.reg false [⟨some 4, .mov (.k (.v false [.c (.b false)])), none⟩]) .ret) .skip)) (.seq (.reg
  false [⟨some 4, .mov (.k (.v false [.c (.b true)])), none⟩]) .ret)))
theorem hc_laws_eqNamed : Try.f213.body.bind (comp Try.prog Try.f213.ntmps) = some ac_laws_eqNamed := by kernel_rfl
theorem k_laws_eqNamed (a : GNamed) (b : GNamed) : SpecO Try.prog 213 [(true, [.s a.Name, .i .i64 a.Rel.Arity, .sl false [.sl false [.i .i64 0, .s []] []] (a.Rel.Rows.map (GRow.cells false false))]), (true, [.s b.Name, .i .i64 b.Rel.Arity, .sl false [.sl false [.i .i64 0, .s []] []] (b.Rel.Rows.map (GRow.cells false false))])] [] (.one (false, [.b (decide (a = b))])) := by
  refine spec_of2 false false none Try.func213 hc_laws_eqNamed (rvs := [.t 4]) (hΓ := mkCtx_ok (deep := false) (l := [(272, [], c_laws_eqRel)]) ⟨c_laws_eqRel_ok, trivial⟩) (h := ?_)
  intro hb hE
  simp only [go_sem] at hb
  unfold ac_laws_eqNamed
  (first | refine AX_AW ?_ | skip); simp only [go_sem, reduceIte, reduceCtorEq, Nat.reduceEqDiff, Int.reduceToNat, Nat.reduceAdd, Nat.reduceLeDiff, Nat.reduceMul, Nat.reduceSub, Nat.reduceMod, Nat.reduceDiv, Nat.reduceLT, Nat.reduceBEq, List.reduceReplicate, ← and_assoc]; (repeat' first | apply CJ.mk | intro hc); all_goals try ((repeat' first | apply And.intro | intro hs) <;> (try simp only [go_sem, Bool.and_eq_false_iff] at hs) <;> omega)
  all_goals (cases a; cases b; simp_all)
noncomputable def c_laws_eqNamed : List V → Option (Prop × List (Nat × V) × R) := famCt (α := GNamed × GNamed) (fun x => [(true, [.s x.1.Name, .i .i64 x.1.Rel.Arity, .sl false [.sl false [.i .i64 0, .s []] []] (x.1.Rel.Rows.map (GRow.cells false false))]), (true, [.s x.2.Name, .i .i64 x.2.Rel.Arity, .sl false [.sl false [.i .i64 0, .s []] []] (x.2.Rel.Rows.map (GRow.cells false false))])]) (fun x => True) (fun x => []) (fun x => .one (false, [.b (decide (x.1 = x.2))]))
@[go_sem] theorem c_laws_eqNamed_eq (a_Name : List UInt8) (a_Rel_Arity : Int) (a_Rel_Rows : List GRow) (b_Name : List UInt8) (b_Rel_Arity : Int) (b_Rel_Rows : List GRow) : c_laws_eqNamed [(true, [.s a_Name, .i .i64 a_Rel_Arity, .sl false [.sl false [.i .i64 0, .s []] []] (a_Rel_Rows.map (GRow.cells false false))]), (true, [.s b_Name, .i .i64 b_Rel_Arity, .sl false [.sl false [.i .i64 0, .s []] []] (b_Rel_Rows.map (GRow.cells false false))])] = some (True, [], .one (false, [.b (decide ((GNamed.mk a_Name (GRel.mk a_Rel_Arity a_Rel_Rows)) = (GNamed.mk b_Name (GRel.mk b_Rel_Arity b_Rel_Rows))))])) := famCt_eq (by rintro ⟨⟨_, ⟨_, _⟩⟩, ⟨_, ⟨_, _⟩⟩⟩ ⟨⟨_, ⟨_, _⟩⟩, ⟨_, ⟨_, _⟩⟩⟩ h; simp only [List.cons.injEq, Prod.mk.injEq, C.i.injEq, C.s.injEq, C.b.injEq, C.sl.injEq, C.p.injEq, C.mp.injEq, C.f.injEq, true_and, and_true, GRow_map_inj] at h; simp_all) ((GNamed.mk a_Name (GRel.mk a_Rel_Arity a_Rel_Rows)), (GNamed.mk b_Name (GRel.mk b_Rel_Arity b_Rel_Rows)))
theorem c_laws_eqNamed_ok : ∀ vs q o r, c_laws_eqNamed vs = some (q, o, r) → q → SpecO Try.prog 213 vs o r := famCt_ok (fun x h => k_laws_eqNamed x.1 x.2)
def ac_laws_eqNamedS : ACode := .seq (.reg false [⟨some 4, .mov (.k (.v false [.c (.b false)])), none⟩]) (.seq (.seq (.reg false [⟨some 6, .mov (.t 0), none⟩, ⟨some 7, .len (.t 6), none⟩,
  ⟨some 8, .mov (.t 1), none⟩, ⟨some 9, .len (.t 8), none⟩, ⟨some 10, .bin .neq (.t 7) (.t 9), none⟩]) (.cond (.t 10) (.seq (.reg false [⟨some 4, .mov (.k (.v
  false [.c (.b false)])), none⟩]) .ret) .skip)) (.seq (.seq (.reg false [⟨some 5, .mov (.k (.v false [.c (.i .i64 0)])), none⟩]) (.block 0 (.loop (.seq (.seq
  (.reg false [⟨some 11, .mov (.t 5), none⟩, ⟨some 12, .mov (.t 0), none⟩, ⟨some 13, .len (.t 12), none⟩, ⟨some 14, .bin .lss (.t 11) (.t 13), none⟩]) (.cond
  (.t 14) .skip (.exit 0))) (.seq (.block 1 (.seq (.reg true [⟨some 17, .mov (.t 0), none⟩, ⟨some 18, .mov (.t 5), none⟩, ⟨some 19, .ia 3 (.t 17) (.t 18),
  none⟩, ⟨some 20, .ld true 3 (.t 19), none⟩, ⟨some 21, .mov (.t 1), none⟩, ⟨some 22, .mov (.t 5), none⟩, ⟨some 23, .ia 3 (.t 21) (.t 22), none⟩, ⟨some 24, .ld
  true 3 (.t 23), none⟩, ⟨some 25, .call 213 [.t 20, .t 24], none⟩, ⟨some 26, .not (.t 25), none⟩]) (.cond (.t 26) (.seq (.reg false [⟨some 4, .mov (.k (.v
  false [.c (.b false)])), none⟩]) .ret) .skip))) (.reg false [⟨some 15, .mov (.t 5), none⟩, ⟨some 16, .bin .add (.t 15) (.k (.v false [.c (.i .i64 1)])),
  none⟩, ⟨some 5, .mov (.t 16), none⟩])))))) (.seq (.reg false [⟨some 4, .mov (.k (.v false [.c (.b true)])), none⟩]) .ret)))
theorem hc_laws_eqNamedS : Try.f134.body.bind (comp Try.prog Try.f134.ntmps) = some ac_laws_eqNamedS := by kernel_rfl
theorem k_laws_eqNamedS (a : List GNamed) (b : List GNamed) : SpecO Try.prog 134 [(false, [.sl false [.s [], .i .i64 0, .sl false [.sl false [.i .i64 0, .s []] []] []] (a.map (GNamed.cells false false))]), (false, [.sl false [.s [], .i .i64 0, .sl false [.sl false [.i .i64 0, .s []] []] []] (b.map (GNamed.cells false false))])] [] (.one (false, [.b (decide (a = b))])) := by
  refine spec_of2 false false none Try.func134 hc_laws_eqNamedS (rvs := [.t 4]) (hΓ := mkCtx_ok (deep := false) (l := [(213, [], c_laws_eqNamed)]) ⟨c_laws_eqNamed_ok, trivial⟩) (h := ?_)
  intro hb hE
  simp only [go_sem] at hb
  unfold ac_laws_eqNamedS
  (first | refine AX_AW ?_ | skip); simp only [go_sem, reduceIte, reduceCtorEq, Nat.reduceEqDiff, Int.reduceToNat, Nat.reduceAdd, Nat.reduceLeDiff, Nat.reduceMul, Nat.reduceSub, Nat.reduceMod, Nat.reduceDiv, Nat.reduceLT, Nat.reduceBEq, List.reduceReplicate, ← and_assoc]; (repeat' first | apply CJ.mk | intro hc); all_goals try ((repeat' first | apply And.intro | intro hs) <;> (try simp only [go_sem, Bool.and_eq_false_iff] at hs) <;> omega)
  · symm
    rw [decide_eq_false_iff_not]
    rintro rfl
    simp at hc
  have hl : a.length = b.length := by simpa [Int.ofNat_inj] using hc
  refine aw_loop2 false [] [0, 1] [] [] (fun i : {i : Nat // i ≤ a.length ∧ a.take i = b.take i} => [(5, slV (.i .i64 i.1))]) (fun i => []) (fun i => []) (fun i => a.length - i.1) (⟨0, by simp⟩) _ rfl ?_ ?_
  · simp only [go_sem, reduceIte, reduceCtorEq, Nat.reduceEqDiff, Int.reduceToNat, Nat.reduceAdd, Nat.reduceLeDiff, Nat.reduceMul, Nat.reduceSub, Nat.reduceMod, Nat.reduceDiv, Nat.reduceLT, Nat.reduceBEq, List.reduceReplicate, ← and_assoc]
    all_goals first | omega | ((repeat' apply And.intro) <;> first | omega | rfl | skip)
  intro S0 hS0 i
  simp only [go_sem, reduceIte, reduceCtorEq, Nat.reduceEqDiff, Int.reduceToNat, Nat.reduceAdd, Nat.reduceLeDiff, Nat.reduceMul, Nat.reduceSub, Nat.reduceMod, Nat.reduceDiv, Nat.reduceLT, Nat.reduceBEq, List.reduceReplicate, ← and_assoc] at hS0
  obtain ⟨i, hi, ht⟩ := i
  (first | refine AX_AW ?_ | skip); simp only [go_sem, reduceIte, reduceCtorEq, Nat.reduceEqDiff, Int.reduceToNat, Nat.reduceAdd, Nat.reduceLeDiff, Nat.reduceMul, Nat.reduceSub, Nat.reduceMod, Nat.reduceDiv, Nat.reduceLT, Nat.reduceBEq, List.reduceReplicate, ← and_assoc, hS0]; (repeat' first | apply CJ.mk | intro hc); all_goals try ((repeat' first | apply And.intro | intro hs) <;> (try simp only [go_sem, Bool.and_eq_false_iff] at hs) <;> omega)
  · exact (decide_eq_false (ne_of_getD default (i := i) (by simpa using hc))).symm
  · (refine lpK_n2 (⟨i + 1, by omega, take_succ_eq ht (by omega) (by omega) (d := default) (by simpa using hc)⟩) _ rfl ?_; simp only [go_sem, reduceIte, reduceCtorEq, Nat.reduceEqDiff, Int.reduceToNat, Nat.reduceAdd, Nat.reduceLeDiff, Nat.reduceMul, Nat.reduceSub, Nat.reduceMod, Nat.reduceDiv, Nat.reduceLT, Nat.reduceBEq, List.reduceReplicate, ← and_assoc, hS0]; first | done | ((repeat' apply And.intro) <;> first | omega | (refine w64 ?_ ?_ ?_ <;> omega) | rfl | skip))
  · exact (decide_eq_true (eq_of_take hl ht (by omega))).symm
  all_goals trace_state
noncomputable def c_laws_eqNamedS : List V → Option (Prop × List (Nat × V) × R) := famCt (α := (List GNamed) × (List GNamed)) (fun x => [(false, [.sl false [.s [], .i .i64 0, .sl false [.sl false [.i .i64 0, .s []] []] []] (x.1.map (GNamed.cells false false))]), (false, [.sl false [.s [], .i .i64 0, .sl false [.sl false [.i .i64 0, .s []] []] []] (x.2.map (GNamed.cells false false))])]) (fun x => True) (fun x => []) (fun x => .one (false, [.b (decide (x.1 = x.2))]))
@[go_sem] theorem c_laws_eqNamedS_eq (a : List GNamed) (b : List GNamed) : c_laws_eqNamedS [(false, [.sl false [.s [], .i .i64 0, .sl false [.sl false [.i .i64 0, .s []] []] []] (a.map (GNamed.cells false false))]), (false, [.sl false [.s [], .i .i64 0, .sl false [.sl false [.i .i64 0, .s []] []] []] (b.map (GNamed.cells false false))])] = some (True, [], .one (false, [.b (decide (a = b))])) := famCt_eq (by rintro ⟨_, _⟩ ⟨_, _⟩ h; simp only [List.cons.injEq, Prod.mk.injEq, C.i.injEq, C.s.injEq, C.b.injEq, C.sl.injEq, C.p.injEq, C.mp.injEq, C.f.injEq, true_and, and_true, GNamed_map_inj] at h; simp_all) (a, b)
theorem c_laws_eqNamedS_ok : ∀ vs q o r, c_laws_eqNamedS vs = some (q, o, r) → q → SpecO Try.prog 134 vs o r := famCt_ok (fun x h => k_laws_eqNamedS x.1 x.2)
def ac_laws_eqStore : ACode := .seq (.reg false [⟨some 2, .box 1 (.t 0), none⟩, ⟨some 3, .box 1 (.t 1), none⟩, ⟨some 4, .mov (.k (.v false [.c (.b false)])), none⟩]) (.seq (.seq (.reg false
  [⟨some 5, .fa 0 (.t 2), none⟩, ⟨some 6, .ld false 1 (.t 5), none⟩, ⟨some 7, .fa 0 (.t 3), none⟩, ⟨some 8, .ld false 1 (.t 7), none⟩, ⟨some 9, .call 134 [.t 6,
  .t 8], none⟩, ⟨some 10, .not (.t 9), none⟩]) (.cond (.t 10) (.seq (.reg false [⟨some 4, .mov (.k (.v false [.c (.b false)])), none⟩]) .ret) .skip)) (.seq
  (.reg false [⟨some 4, .mov (.k (.v false [.c (.b true)])), none⟩]) .ret))
theorem hc_laws_eqStore : Try.f52.body.bind (comp Try.prog Try.f52.ntmps) = some ac_laws_eqStore := by kernel_rfl
theorem k_laws_eqStore (a : GStore) (b : GStore) : SpecO Try.prog 52 [(true, [.sl false [.s [], .i .i64 0, .sl false [.sl false [.i .i64 0, .s []] []] []] (a.Rels.map (GNamed.cells false false))]), (true, [.sl false [.s [], .i .i64 0, .sl false [.sl false [.i .i64 0, .s []] []] []] (b.Rels.map (GNamed.cells false false))])] [] (.one (false, [.b (decide (a = b))])) := by
  refine spec_of2 false false none Try.func52 hc_laws_eqStore (rvs := [.t 4]) (hΓ := mkCtx_ok (deep := false) (l := [(134, [], c_laws_eqNamedS)]) ⟨c_laws_eqNamedS_ok, trivial⟩) (h := ?_)
  intro hb hE
  simp only [go_sem] at hb
  unfold ac_laws_eqStore
  (first | refine AX_AW ?_ | skip); simp only [go_sem, reduceIte, reduceCtorEq, Nat.reduceEqDiff, Int.reduceToNat, Nat.reduceAdd, Nat.reduceLeDiff, Nat.reduceMul, Nat.reduceSub, Nat.reduceMod, Nat.reduceDiv, Nat.reduceLT, Nat.reduceBEq, List.reduceReplicate, ← and_assoc]; (repeat' first | apply CJ.mk | intro hc); all_goals try ((repeat' first | apply And.intro | intro hs) <;> (try simp only [go_sem, Bool.and_eq_false_iff] at hs) <;> omega)
  all_goals (cases a; cases b; simp_all)
noncomputable def c_laws_eqStore : List V → Option (Prop × List (Nat × V) × R) := famCt (α := GStore × GStore) (fun x => [(true, [.sl false [.s [], .i .i64 0, .sl false [.sl false [.i .i64 0, .s []] []] []] (x.1.Rels.map (GNamed.cells false false))]), (true, [.sl false [.s [], .i .i64 0, .sl false [.sl false [.i .i64 0, .s []] []] []] (x.2.Rels.map (GNamed.cells false false))])]) (fun x => True) (fun x => []) (fun x => .one (false, [.b (decide (x.1 = x.2))]))
@[go_sem] theorem c_laws_eqStore_eq (a_Rels : List GNamed) (b_Rels : List GNamed) : c_laws_eqStore [(true, [.sl false [.s [], .i .i64 0, .sl false [.sl false [.i .i64 0, .s []] []] []] (a_Rels.map (GNamed.cells false false))]), (true, [.sl false [.s [], .i .i64 0, .sl false [.sl false [.i .i64 0, .s []] []] []] (b_Rels.map (GNamed.cells false false))])] = some (True, [], .one (false, [.b (decide ((GStore.mk a_Rels) = (GStore.mk b_Rels)))])) := famCt_eq (by rintro ⟨⟨_⟩, ⟨_⟩⟩ ⟨⟨_⟩, ⟨_⟩⟩ h; simp only [List.cons.injEq, Prod.mk.injEq, C.i.injEq, C.s.injEq, C.b.injEq, C.sl.injEq, C.p.injEq, C.mp.injEq, C.f.injEq, true_and, and_true, GNamed_map_inj] at h; simp_all) ((GStore.mk a_Rels), (GStore.mk b_Rels))
theorem c_laws_eqStore_ok : ∀ vs q o r, c_laws_eqStore vs = some (q, o, r) → q → SpecO Try.prog 52 vs o r := famCt_ok (fun x h => k_laws_eqStore x.1 x.2)
def ac_laws_eqStep : ACode := .seq (.reg false [⟨some 2, .box 4 (.t 0), none⟩, ⟨some 3, .box 4 (.t 1), none⟩, ⟨some 4, .mov (.k (.v false [.c (.b false)])), none⟩]) (.seq (.seq (.reg false
  [⟨some 5, .fa 0 (.t 2), none⟩, ⟨some 6, .ld false 1 (.t 5), none⟩, ⟨some 7, .fa 0 (.t 3), none⟩, ⟨some 8, .ld false 1 (.t 7), none⟩, ⟨some 9, .bin .neq (.t 6)
  (.t 8), none⟩]) (.cond (.t 9) (.seq (.reg false [⟨some 4, .mov (.k (.v false [.c (.b false)])), none⟩]) .ret) .skip)) (.seq (.seq (.reg false [⟨some 10, .fa 1
  (.t 2), none⟩, ⟨some 11, .ld true 1 (.t 10), none⟩, ⟨some 12, .fa 1 (.t 3), none⟩, ⟨some 13, .ld true 1 (.t 12), none⟩, ⟨some 14, .call 41 [.t 11, .t 13],
  none⟩, ⟨some 15, .not (.t 14), none⟩]) (.cond (.t 15) (.seq (.reg false [⟨some 4, .mov (.k (.v false [.c (.b false)])), none⟩]) .ret) .skip)) (.seq (.seq
  (.reg false [⟨some 16, .fa 2 (.t 2), none⟩, ⟨some 17, .ld false 1 (.t 16), none⟩, ⟨some 18, .fa 2 (.t 3), none⟩, ⟨some 19, .ld false 1 (.t 18), none⟩, ⟨some
  20, .bin .neq (.t 17) (.t 19), none⟩]) (.cond (.t 20) (.seq (.reg false [⟨some 4, .mov (.k (.v false [.c (.b false)])), none⟩]) .ret) .skip)) (.seq (.seq
  (.reg false [⟨some 21, .fa 3 (.t 2), none⟩, ⟨some 22, .ld true 1 (.t 21), none⟩, ⟨some 23, .fa 3 (.t 3), none⟩, ⟨some 24, .ld true 1 (.t 23), none⟩, ⟨some 25,
  .call 39 [.t 22, .t 24], none⟩, ⟨some 26, .not (.t 25), none⟩]) (.cond (.t 26) (.seq (.reg false [⟨some 4, .mov (.k (.v false [.c (.b false)])), none⟩]) .ret)
  .skip)) (.seq (.reg false [⟨some 4, .mov (.k (.v false [.c (.b true)])), none⟩]) .ret)))))
theorem hc_laws_eqStep : Try.f135.body.bind (comp Try.prog Try.f135.ntmps) = some ac_laws_eqStep := by kernel_rfl
theorem k_laws_eqStep (a : GStep) (b : GStep) : SpecO Try.prog 135 [(true, [.s a.Name, .sl false [.i .i64 0, .s []] (a.Row.V.map GValue.cells), .i .i64 a.Rule, .sl false [.s [], .i .i64 0, .s []] (a.Env.Binds.map GBind.cells)]), (true, [.s b.Name, .sl false [.i .i64 0, .s []] (b.Row.V.map GValue.cells), .i .i64 b.Rule, .sl false [.s [], .i .i64 0, .s []] (b.Env.Binds.map GBind.cells)])] [] (.one (false, [.b (decide (a = b))])) := by
  refine spec_of2 false false none Try.func135 hc_laws_eqStep (rvs := [.t 4]) (hΓ := mkCtx_ok (deep := false) (l := [(39, [], c_laws_eqEnv), (41, [], c_laws_eqRow)]) ⟨c_laws_eqEnv_ok, c_laws_eqRow_ok, trivial⟩) (h := ?_)
  intro hb hE
  simp only [go_sem] at hb
  unfold ac_laws_eqStep
  (first | refine AX_AW ?_ | skip); simp only [go_sem, reduceIte, reduceCtorEq, Nat.reduceEqDiff, Int.reduceToNat, Nat.reduceAdd, Nat.reduceLeDiff, Nat.reduceMul, Nat.reduceSub, Nat.reduceMod, Nat.reduceDiv, Nat.reduceLT, Nat.reduceBEq, List.reduceReplicate, ← and_assoc]; (repeat' first | apply CJ.mk | intro hc); all_goals try ((repeat' first | apply And.intro | intro hs) <;> (try simp only [go_sem, Bool.and_eq_false_iff] at hs) <;> omega)
  all_goals (cases a; cases b; simp_all)
noncomputable def c_laws_eqStep : List V → Option (Prop × List (Nat × V) × R) := famCt (α := GStep × GStep) (fun x => [(true, [.s x.1.Name, .sl false [.i .i64 0, .s []] (x.1.Row.V.map GValue.cells), .i .i64 x.1.Rule, .sl false [.s [], .i .i64 0, .s []] (x.1.Env.Binds.map GBind.cells)]), (true, [.s x.2.Name, .sl false [.i .i64 0, .s []] (x.2.Row.V.map GValue.cells), .i .i64 x.2.Rule, .sl false [.s [], .i .i64 0, .s []] (x.2.Env.Binds.map GBind.cells)])]) (fun x => True) (fun x => []) (fun x => .one (false, [.b (decide (x.1 = x.2))]))
@[go_sem] theorem c_laws_eqStep_eq (a_Name : List UInt8) (a_Row_V : List GValue) (a_Rule : Int) (a_Env_Binds : List GBind) (b_Name : List UInt8) (b_Row_V : List GValue) (b_Rule : Int) (b_Env_Binds : List GBind) : c_laws_eqStep [(true, [.s a_Name, .sl false [.i .i64 0, .s []] (a_Row_V.map GValue.cells), .i .i64 a_Rule, .sl false [.s [], .i .i64 0, .s []] (a_Env_Binds.map GBind.cells)]), (true, [.s b_Name, .sl false [.i .i64 0, .s []] (b_Row_V.map GValue.cells), .i .i64 b_Rule, .sl false [.s [], .i .i64 0, .s []] (b_Env_Binds.map GBind.cells)])] = some (True, [], .one (false, [.b (decide ((GStep.mk a_Name (GRow.mk a_Row_V) a_Rule (GEnv.mk a_Env_Binds)) = (GStep.mk b_Name (GRow.mk b_Row_V) b_Rule (GEnv.mk b_Env_Binds))))])) := famCt_eq (by rintro ⟨⟨_, ⟨_⟩, _, ⟨_⟩⟩, ⟨_, ⟨_⟩, _, ⟨_⟩⟩⟩ ⟨⟨_, ⟨_⟩, _, ⟨_⟩⟩, ⟨_, ⟨_⟩, _, ⟨_⟩⟩⟩ h; simp only [List.cons.injEq, Prod.mk.injEq, C.i.injEq, C.s.injEq, C.b.injEq, C.sl.injEq, C.p.injEq, C.mp.injEq, C.f.injEq, true_and, and_true, GBind_map_inj, GValue_map_inj] at h; simp_all) ((GStep.mk a_Name (GRow.mk a_Row_V) a_Rule (GEnv.mk a_Env_Binds)), (GStep.mk b_Name (GRow.mk b_Row_V) b_Rule (GEnv.mk b_Env_Binds)))
theorem c_laws_eqStep_ok : ∀ vs q o r, c_laws_eqStep vs = some (q, o, r) → q → SpecO Try.prog 135 vs o r := famCt_ok (fun x h => k_laws_eqStep x.1 x.2)
def ac_laws_eqStepS : ACode := .seq (.reg false [⟨some 4, .mov (.k (.v false [.c (.b false)])), none⟩]) (.seq (.seq (.reg false [⟨some 6, .mov (.t 0), none⟩, ⟨some 7, .len (.t 6), none⟩,
  ⟨some 8, .mov (.t 1), none⟩, ⟨some 9, .len (.t 8), none⟩, ⟨some 10, .bin .neq (.t 7) (.t 9), none⟩]) (.cond (.t 10) (.seq (.reg false [⟨some 4, .mov (.k (.v
  false [.c (.b false)])), none⟩]) .ret) .skip)) (.seq (.seq (.reg false [⟨some 5, .mov (.k (.v false [.c (.i .i64 0)])), none⟩]) (.block 0 (.loop (.seq (.seq
  (.reg false [⟨some 11, .mov (.t 5), none⟩, ⟨some 12, .mov (.t 0), none⟩, ⟨some 13, .len (.t 12), none⟩, ⟨some 14, .bin .lss (.t 11) (.t 13), none⟩]) (.cond
  (.t 14) .skip (.exit 0))) (.seq (.block 1 (.seq (.reg true [⟨some 17, .mov (.t 0), none⟩, ⟨some 18, .mov (.t 5), none⟩, ⟨some 19, .ia 4 (.t 17) (.t 18),
  none⟩, ⟨some 20, .ld true 4 (.t 19), none⟩, ⟨some 21, .mov (.t 1), none⟩, ⟨some 22, .mov (.t 5), none⟩, ⟨some 23, .ia 4 (.t 21) (.t 22), none⟩, ⟨some 24, .ld
  true 4 (.t 23), none⟩, ⟨some 25, .call 135 [.t 20, .t 24], none⟩, ⟨some 26, .not (.t 25), none⟩]) (.cond (.t 26) (.seq (.reg false [⟨some 4, .mov (.k (.v
  false [.c (.b false)])), none⟩]) .ret) .skip))) (.reg false [⟨some 15, .mov (.t 5), none⟩, ⟨some 16, .bin .add (.t 15) (.k (.v false [.c (.i .i64 1)])),
  none⟩, ⟨some 5, .mov (.t 16), none⟩])))))) (.seq (.reg false [⟨some 4, .mov (.k (.v false [.c (.b true)])), none⟩]) .ret)))
theorem hc_laws_eqStepS : Try.f53.body.bind (comp Try.prog Try.f53.ntmps) = some ac_laws_eqStepS := by kernel_rfl
theorem k_laws_eqStepS (a : List GStep) (b : List GStep) : SpecO Try.prog 53 [(false, [.sl false [.s [], .sl false [.i .i64 0, .s []] [], .i .i64 0, .sl false [.s [], .i .i64 0, .s []] []] (a.map (GStep.cells false false))]), (false, [.sl false [.s [], .sl false [.i .i64 0, .s []] [], .i .i64 0, .sl false [.s [], .i .i64 0, .s []] []] (b.map (GStep.cells false false))])] [] (.one (false, [.b (decide (a = b))])) := by
  refine spec_of2 false false none Try.func53 hc_laws_eqStepS (rvs := [.t 4]) (hΓ := mkCtx_ok (deep := false) (l := [(135, [], c_laws_eqStep)]) ⟨c_laws_eqStep_ok, trivial⟩) (h := ?_)
  intro hb hE
  simp only [go_sem] at hb
  unfold ac_laws_eqStepS
  (first | refine AX_AW ?_ | skip); simp only [go_sem, reduceIte, reduceCtorEq, Nat.reduceEqDiff, Int.reduceToNat, Nat.reduceAdd, Nat.reduceLeDiff, Nat.reduceMul, Nat.reduceSub, Nat.reduceMod, Nat.reduceDiv, Nat.reduceLT, Nat.reduceBEq, List.reduceReplicate, ← and_assoc]; (repeat' first | apply CJ.mk | intro hc); all_goals try ((repeat' first | apply And.intro | intro hs) <;> (try simp only [go_sem, Bool.and_eq_false_iff] at hs) <;> omega)
  · symm
    rw [decide_eq_false_iff_not]
    rintro rfl
    simp at hc
  have hl : a.length = b.length := by simpa [Int.ofNat_inj] using hc
  refine aw_loop2 false [] [0, 1] [] [] (fun i : {i : Nat // i ≤ a.length ∧ a.take i = b.take i} => [(5, slV (.i .i64 i.1))]) (fun i => []) (fun i => []) (fun i => a.length - i.1) (⟨0, by simp⟩) _ rfl ?_ ?_
  · simp only [go_sem, reduceIte, reduceCtorEq, Nat.reduceEqDiff, Int.reduceToNat, Nat.reduceAdd, Nat.reduceLeDiff, Nat.reduceMul, Nat.reduceSub, Nat.reduceMod, Nat.reduceDiv, Nat.reduceLT, Nat.reduceBEq, List.reduceReplicate, ← and_assoc]
    all_goals first | omega | ((repeat' apply And.intro) <;> first | omega | rfl | skip)
  intro S0 hS0 i
  simp only [go_sem, reduceIte, reduceCtorEq, Nat.reduceEqDiff, Int.reduceToNat, Nat.reduceAdd, Nat.reduceLeDiff, Nat.reduceMul, Nat.reduceSub, Nat.reduceMod, Nat.reduceDiv, Nat.reduceLT, Nat.reduceBEq, List.reduceReplicate, ← and_assoc] at hS0
  obtain ⟨i, hi, ht⟩ := i
  (first | refine AX_AW ?_ | skip); simp only [go_sem, reduceIte, reduceCtorEq, Nat.reduceEqDiff, Int.reduceToNat, Nat.reduceAdd, Nat.reduceLeDiff, Nat.reduceMul, Nat.reduceSub, Nat.reduceMod, Nat.reduceDiv, Nat.reduceLT, Nat.reduceBEq, List.reduceReplicate, ← and_assoc, hS0]; (repeat' first | apply CJ.mk | intro hc); all_goals try ((repeat' first | apply And.intro | intro hs) <;> (try simp only [go_sem, Bool.and_eq_false_iff] at hs) <;> omega)
  · exact (decide_eq_false (ne_of_getD default (i := i) (by simpa using hc))).symm
  · (refine lpK_n2 (⟨i + 1, by omega, take_succ_eq ht (by omega) (by omega) (d := default) (by simpa using hc)⟩) _ rfl ?_; simp only [go_sem, reduceIte, reduceCtorEq, Nat.reduceEqDiff, Int.reduceToNat, Nat.reduceAdd, Nat.reduceLeDiff, Nat.reduceMul, Nat.reduceSub, Nat.reduceMod, Nat.reduceDiv, Nat.reduceLT, Nat.reduceBEq, List.reduceReplicate, ← and_assoc, hS0]; first | done | ((repeat' apply And.intro) <;> first | omega | (refine w64 ?_ ?_ ?_ <;> omega) | rfl | skip))
  · exact (decide_eq_true (eq_of_take hl ht (by omega))).symm
  all_goals trace_state
noncomputable def c_laws_eqStepS : List V → Option (Prop × List (Nat × V) × R) := famCt (α := (List GStep) × (List GStep)) (fun x => [(false, [.sl false [.s [], .sl false [.i .i64 0, .s []] [], .i .i64 0, .sl false [.s [], .i .i64 0, .s []] []] (x.1.map (GStep.cells false false))]), (false, [.sl false [.s [], .sl false [.i .i64 0, .s []] [], .i .i64 0, .sl false [.s [], .i .i64 0, .s []] []] (x.2.map (GStep.cells false false))])]) (fun x => True) (fun x => []) (fun x => .one (false, [.b (decide (x.1 = x.2))]))
@[go_sem] theorem c_laws_eqStepS_eq (a : List GStep) (b : List GStep) : c_laws_eqStepS [(false, [.sl false [.s [], .sl false [.i .i64 0, .s []] [], .i .i64 0, .sl false [.s [], .i .i64 0, .s []] []] (a.map (GStep.cells false false))]), (false, [.sl false [.s [], .sl false [.i .i64 0, .s []] [], .i .i64 0, .sl false [.s [], .i .i64 0, .s []] []] (b.map (GStep.cells false false))])] = some (True, [], .one (false, [.b (decide (a = b))])) := famCt_eq (by rintro ⟨_, _⟩ ⟨_, _⟩ h; simp only [List.cons.injEq, Prod.mk.injEq, C.i.injEq, C.s.injEq, C.b.injEq, C.sl.injEq, C.p.injEq, C.mp.injEq, C.f.injEq, true_and, and_true, GStep_map_inj] at h; simp_all) (a, b)
theorem c_laws_eqStepS_ok : ∀ vs q o r, c_laws_eqStepS vs = some (q, o, r) → q → SpecO Try.prog 53 vs o r := famCt_ok (fun x h => k_laws_eqStepS x.1 x.2)
end Go.Aw
