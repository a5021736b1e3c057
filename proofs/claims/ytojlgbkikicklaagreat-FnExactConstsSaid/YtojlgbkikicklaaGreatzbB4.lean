/- Stores and steps: sizes, copies, equalities. No condition. -/
import Derived.Test.YtojlgbkikicklaaGreatzbB0
import Derived.Test.YtojlgbkikicklaaGreatzbB2
namespace Go.Aw
open Go.Proofs
attribute [local irreducible] aft blk lpK retK AW SpecO
set_option linter.unusedVariables false
set_option linter.unusedSimpArgs false
set_option maxRecDepth 100000
def totRow (x : GRow) : Nat := (x.V.length + tots totValue x.V)
def totRel (x : GRel) : Nat := (x.Rows.length + tots totRow x.Rows)
def totNamed (x : GNamed) : Nat := x.Name.length + totRel x.Rel
def totStore (x : GStore) : Nat := (x.Rels.length + tots totNamed x.Rels)
def totStep (x : GStep) : Nat := x.Name.length + totRow x.Row + totEnv x.Env
def ac_laws_szValueS : ACode := .seq (.reg false [⟨some 4, .mov (.k (.v false [.c (.i .i64 0)])), none⟩]) (.seq (.reg false [⟨some 6, .mov (.t 1), none⟩, ⟨some 7, .mov (.t 0), none⟩, ⟨some 8,
  .len (.t 7), none⟩, ⟨some 9, .bin .sub (.t 6) (.t 8), none⟩, ⟨some 1, .mov (.t 9), none⟩]) (.seq (.seq (.reg false [⟨some 10, .mov (.t 1), none⟩, ⟨some 11,
  .bin .lss (.t 10) (.k (.v false [.c (.i .i64 0)])), none⟩]) (.cond (.t 11) (.seq (.reg false [⟨some 4, .mov (.k (.v false [.c (.i .i64 (-1))])), none⟩]) .ret)
  .skip)) (.seq (.seq (.reg false [⟨some 5, .mov (.k (.v false [.c (.i .i64 0)])), none⟩]) (.block 0 (.loop (.seq (.seq (.reg false [⟨some 12, .mov (.t 5),
  none⟩, ⟨some 13, .mov (.t 0), none⟩, ⟨some 14, .len (.t 13), none⟩, ⟨some 15, .bin .lss (.t 12) (.t 14), none⟩]) (.cond (.t 15) .skip (.exit 0))) (.seq
  (.block 1 (.seq (.reg false [⟨some 18, .mov (.t 0), none⟩, ⟨some 19, .mov (.t 5), none⟩, ⟨some 20, .ia 2 (.t 18) (.t 19), none⟩, ⟨some 21, .ld true 2 (.t 20),
  none⟩, ⟨some 22, .mov (.t 1), none⟩, ⟨some 23, .call 253 [.t 21, .t 22], none⟩, ⟨some 1, .mov (.t 23), none⟩]) (.seq (.reg false [⟨some 24, .mov (.t 1),
  none⟩, ⟨some 25, .bin .lss (.t 24) (.k (.v false [.c (.i .i64 0)])), none⟩]) (.cond (.t 25) (.seq (.reg false [⟨some 4, .mov (.k (.v false [.c (.i .i64
  (-1))])), none⟩]) .ret) .skip)))) (.reg false [⟨some 16, .mov (.t 5), none⟩, ⟨some 17, .bin .add (.t 16) (.k (.v false [.c (.i .i64 1)])), none⟩, ⟨some 5,
  .mov (.t 17), none⟩])))))) (.seq (.reg false [⟨some 26, .mov (.t 1), none⟩, ⟨some 4, .mov (.t 26), none⟩]) .ret))))
theorem hc_laws_szValueS : Tryz.f180.body.bind (comp Tryz.prog Tryz.f180.ntmps) = some ac_laws_szValueS := by kernel_rfl
theorem k_laws_szValueS (a : List GValue) (left : Int) (hpre : 0 ≤ left ∧ left ≤ 1048576) : SpecO Tryz.prog 180 [(false, [.sl false [.i .i64 0, .s []] (a.map GValue.cells)]), (false, [.i .i64 left])] [] (.one (false, [.i .i64 (szR left ((a.length + tots totValue a) : Nat))])) := by
  refine spec_of2 false false none Tryz.func180 hc_laws_szValueS (rvs := [.t 4]) (hΓ := mkCtx_ok (deep := false) (l := [(253, [], c_laws_szValue)]) ⟨c_laws_szValue_ok, trivial⟩) (h := ?_)
  intro hb hE
  simp only [go_sem] at hb
  unfold ac_laws_szValueS
  (try refine AX_AW ?_); simp only [go_sem]; (repeat' first | apply CJ.mk | intro hc); all_goals try ((repeat' first | apply And.intro | intro hs) <;> (try simp only [go_sem, Bool.and_eq_false_iff] at hs) <;> omega)
  · all_goals ((repeat (simp (disch := omega) only [wsub] at *)) <;> (try simp only [szR, szR] at *) <;> (first | omega | (split <;> omega)))
  have hw := wsub (l := left) (n := a.length) (by omega) (by omega) (by omega) (by omega)
  rw [hw] at hc
  refine aw_loop2 false [] [0] [] [] (fun i : {i : Nat // i ≤ a.length ∧ (a.length : Int) + (tots totValue (a.take i) : Nat) ≤ left} => [(5, slV (.i .i64 i.1)), (1, slV (.i .i64 (left - a.length - (tots totValue (a.take i.1) : Nat))))]) (fun i => []) (fun i => []) (fun i => a.length - i.1) (⟨0, by simp only [List.take_zero, tots_nil]; omega⟩) _ rfl ?_ ?_
  · simp only [go_sem, hw]
    all_goals first | omega | ((repeat' apply And.intro) <;> first | omega | rfl | skip)
  intro S0 hS0 i
  simp only [go_sem, hw] at hS0
  obtain ⟨i, hi, ht⟩ := i
  (try refine AX_AW ?_); simp only [go_sem, hw, hS0]; (repeat' first | apply CJ.mk | intro hc); all_goals try ((repeat' first | apply And.intro | intro hs) <;> (try simp only [go_sem, Bool.and_eq_false_iff] at hs) <;> omega)
  · have h1 := tots_take_succ totValue (default : GValue) (show i < a.length by omega)
    have h2 := tots_take_le totValue a (i + 1)
    all_goals ((repeat (simp (disch := omega) only [wsub] at *)) <;> (try simp only [szR, szR] at *) <;> (first | omega | (split <;> omega)))
  · have h1 := tots_take_succ totValue (default : GValue) (show i < a.length by omega)
    (refine lpK_n2 (⟨i + 1, by omega, by unfold szR at hc; split at hc <;> omega⟩) _ rfl ?_; simp only [go_sem, hw, hS0]; first | done | ((repeat' apply And.intro) <;> first | omega | (refine w64 ?_ ?_ ?_ <;> omega) | rfl | skip))
    rw [h1]
    unfold szR at hc ⊢
    split at hc <;> omega
  · have h1 := tots_all totValue (show ¬ i < a.length by omega)
    all_goals ((repeat (simp (disch := omega) only [wsub] at *)) <;> (try simp only [szR, szR] at *) <;> (first | omega | (split <;> omega)))
  all_goals all_goals ((repeat (simp (disch := omega) only [wsub] at *)) <;> (try simp only [szR, szR] at *) <;> (first | omega | (split <;> omega)))
noncomputable def c_laws_szValueS : List V → Option (Prop × List (Nat × V) × R) := famP (fun (x : (List GValue) × Int) h => k_laws_szValueS x.1 x.2 h)
@[go_sem] theorem c_laws_szValueS_eq (a : List GValue) (left : Int) : c_laws_szValueS [(false, [.sl false [.i .i64 0, .s []] (a.map GValue.cells)]), (false, [.i .i64 left])] = some (0 ≤ left ∧ left ≤ 1048576, [], .one (false, [.i .i64 (szR left ((a.length + tots totValue a) : Nat))])) := famP_eq _ (by rintro ⟨_, _⟩ ⟨_, _⟩ h; simp at h; simp_all) (a, left)
theorem c_laws_szValueS_ok : ∀ vs q o r, c_laws_szValueS vs = some (q, o, r) → q → SpecO Tryz.prog 180 vs o r := famP_ok _
def ac_laws_szRow : ACode := .seq (.reg false [⟨some 2, .box 1 (.t 0), none⟩, ⟨some 4, .mov (.k (.v false [.c (.i .i64 0)])), none⟩]) (.seq (.reg false [⟨some 5, .fa 0 (.t 2), none⟩, ⟨some
  6, .ld false 1 (.t 5), none⟩, ⟨some 7, .mov (.t 1), none⟩, ⟨some 8, .call 180 [.t 6, .t 7], none⟩, ⟨some 1, .mov (.t 8), none⟩]) (.seq (.seq (.reg false
  [⟨some 9, .mov (.t 1), none⟩, ⟨some 10, .bin .lss (.t 9) (.k (.v false [.c (.i .i64 0)])), none⟩]) (.cond (.t 10) (.seq (.reg false [⟨some 4, .mov (.k (.v
  false [.c (.i .i64 (-1))])), none⟩]) .ret) .skip)) (.seq (.reg false [⟨some 11, .mov (.t 1), none⟩, ⟨some 4, .mov (.t 11), none⟩]) .ret)))
theorem hc_laws_szRow : Tryz.f112.body.bind (comp Tryz.prog Tryz.f112.ntmps) = some ac_laws_szRow := by kernel_rfl
theorem k_laws_szRow (a : GRow) (left : Int) (hpre : 0 ≤ left ∧ left ≤ 1048576) : SpecO Tryz.prog 112 [(true, [.sl false [.i .i64 0, .s []] (a.V.map GValue.cells)]), (false, [.i .i64 left])] [] (.one (false, [.i .i64 (szR left (totRow a : Nat))])) := by
  refine spec_of2 false false none Tryz.func112 hc_laws_szRow (rvs := [.t 4]) (hΓ := mkCtx_ok (deep := false) (l := [(180, [], c_laws_szValueS)]) ⟨c_laws_szValueS_ok, trivial⟩) (h := ?_)
  intro hb hE
  simp only [go_sem] at hb
  unfold ac_laws_szRow
  (try refine AX_AW ?_); simp only [go_sem]; (repeat' first | apply CJ.mk | intro hc); all_goals try ((repeat' first | apply And.intro | intro hs) <;> (try simp only [go_sem, Bool.and_eq_false_iff] at hs) <;> omega)
  all_goals ((repeat (simp (disch := omega) only [wsub] at *)) <;> (try simp only [szR, totRow] at *) <;> (first | omega | (split <;> omega)))
noncomputable def c_laws_szRow : List V → Option (Prop × List (Nat × V) × R) := famP (fun (x : GRow × Int) h => k_laws_szRow x.1 x.2 h)
@[go_sem] theorem c_laws_szRow_eq (a_V : List GValue) (left : Int) : c_laws_szRow [(true, [.sl false [.i .i64 0, .s []] (a_V.map GValue.cells)]), (false, [.i .i64 left])] = some (0 ≤ left ∧ left ≤ 1048576, [], .one (false, [.i .i64 (szR left (totRow (GRow.mk a_V) : Nat))])) := famP_eq _ (by rintro ⟨⟨_⟩, _⟩ ⟨⟨_⟩, _⟩ h; simp at h; simp_all) ((GRow.mk a_V), left)
theorem c_laws_szRow_ok : ∀ vs q o r, c_laws_szRow vs = some (q, o, r) → q → SpecO Tryz.prog 112 vs o r := famP_ok _
def ac_laws_szRowS : ACode := .seq (.reg false [⟨some 4, .mov (.k (.v false [.c (.i .i64 0)])), none⟩]) (.seq (.reg false [⟨some 6, .mov (.t 1), none⟩, ⟨some 7, .mov (.t 0), none⟩, ⟨some 8,
  .len (.t 7), none⟩, ⟨some 9, .bin .sub (.t 6) (.t 8), none⟩, ⟨some 1, .mov (.t 9), none⟩]) (.seq (.seq (.reg false [⟨some 10, .mov (.t 1), none⟩, ⟨some 11,
  .bin .lss (.t 10) (.k (.v false [.c (.i .i64 0)])), none⟩]) (.cond (.t 11) (.seq (.reg false [⟨some 4, .mov (.k (.v false [.c (.i .i64 (-1))])), none⟩]) .ret)
  .skip)) (.seq (.seq (.reg false [⟨some 5, .mov (.k (.v false [.c (.i .i64 0)])), none⟩]) (.block 0 (.loop (.seq (.seq (.reg false [⟨some 12, .mov (.t 5),
  none⟩, ⟨some 13, .mov (.t 0), none⟩, ⟨some 14, .len (.t 13), none⟩, ⟨some 15, .bin .lss (.t 12) (.t 14), none⟩]) (.cond (.t 15) .skip (.exit 0))) (.seq
  (.block 1 (.seq (.reg false [⟨some 18, .mov (.t 0), none⟩, ⟨some 19, .mov (.t 5), none⟩, ⟨some 20, .ia 1 (.t 18) (.t 19), none⟩, ⟨some 21, .ld true 1 (.t 20),
  none⟩, ⟨some 22, .mov (.t 1), none⟩, ⟨some 23, .call 112 [.t 21, .t 22], none⟩, ⟨some 1, .mov (.t 23), none⟩]) (.seq (.reg false [⟨some 24, .mov (.t 1),
  none⟩, ⟨some 25, .bin .lss (.t 24) (.k (.v false [.c (.i .i64 0)])), none⟩]) (.cond (.t 25) (.seq (.reg false [⟨some 4, .mov (.k (.v false [.c (.i .i64
  (-1))])), none⟩]) .ret) .skip)))) (.reg false [⟨some 16, .mov (.t 5), none⟩, ⟨some 17, .bin .add (.t 16) (.k (.v false [.c (.i .i64 1)])), none⟩, ⟨some 5,
  .mov (.t 17), none⟩])))))) (.seq (.reg false [⟨some 26, .mov (.t 1), none⟩, ⟨some 4, .mov (.t 26), none⟩]) .ret))))
theorem hc_laws_szRowS : Tryz.f297.body.bind (comp Tryz.prog Tryz.f297.ntmps) = some ac_laws_szRowS := by kernel_rfl
theorem k_laws_szRowS (a : List GRow) (left : Int) (hpre : 0 ≤ left ∧ left ≤ 1048576) : SpecO Tryz.prog 297 [(false, [.sl false [.sl false [.i .i64 0, .s []] []] (a.map (GRow.cells false false))]), (false, [.i .i64 left])] [] (.one (false, [.i .i64 (szR left ((a.length + tots totRow a) : Nat))])) := by
  refine spec_of2 false false none Tryz.func297 hc_laws_szRowS (rvs := [.t 4]) (hΓ := mkCtx_ok (deep := false) (l := [(112, [], c_laws_szRow)]) ⟨c_laws_szRow_ok, trivial⟩) (h := ?_)
  intro hb hE
  simp only [go_sem] at hb
  unfold ac_laws_szRowS
  (try refine AX_AW ?_); simp only [go_sem]; (repeat' first | apply CJ.mk | intro hc); all_goals try ((repeat' first | apply And.intro | intro hs) <;> (try simp only [go_sem, Bool.and_eq_false_iff] at hs) <;> omega)
  · all_goals ((repeat (simp (disch := omega) only [wsub] at *)) <;> (try simp only [szR, szR] at *) <;> (first | omega | (split <;> omega)))
  have hw := wsub (l := left) (n := a.length) (by omega) (by omega) (by omega) (by omega)
  rw [hw] at hc
  refine aw_loop2 false [] [0] [] [] (fun i : {i : Nat // i ≤ a.length ∧ (a.length : Int) + (tots totRow (a.take i) : Nat) ≤ left} => [(5, slV (.i .i64 i.1)), (1, slV (.i .i64 (left - a.length - (tots totRow (a.take i.1) : Nat))))]) (fun i => []) (fun i => []) (fun i => a.length - i.1) (⟨0, by simp only [List.take_zero, tots_nil]; omega⟩) _ rfl ?_ ?_
  · simp only [go_sem, hw]
    all_goals first | omega | ((repeat' apply And.intro) <;> first | omega | rfl | skip)
  intro S0 hS0 i
  simp only [go_sem, hw] at hS0
  obtain ⟨i, hi, ht⟩ := i
  (try refine AX_AW ?_); simp only [go_sem, hw, hS0]; (repeat' first | apply CJ.mk | intro hc); all_goals try ((repeat' first | apply And.intro | intro hs) <;> (try simp only [go_sem, Bool.and_eq_false_iff] at hs) <;> omega)
  · have h1 := tots_take_succ totRow (default : GRow) (show i < a.length by omega)
    have h2 := tots_take_le totRow a (i + 1)
    all_goals ((repeat (simp (disch := omega) only [wsub] at *)) <;> (try simp only [szR, szR] at *) <;> (first | omega | (split <;> omega)))
  · have h1 := tots_take_succ totRow (default : GRow) (show i < a.length by omega)
    (refine lpK_n2 (⟨i + 1, by omega, by unfold szR at hc; split at hc <;> omega⟩) _ rfl ?_; simp only [go_sem, hw, hS0]; first | done | ((repeat' apply And.intro) <;> first | omega | (refine w64 ?_ ?_ ?_ <;> omega) | rfl | skip))
    rw [h1]
    unfold szR at hc ⊢
    split at hc <;> omega
  · have h1 := tots_all totRow (show ¬ i < a.length by omega)
    all_goals ((repeat (simp (disch := omega) only [wsub] at *)) <;> (try simp only [szR, szR] at *) <;> (first | omega | (split <;> omega)))
  all_goals all_goals ((repeat (simp (disch := omega) only [wsub] at *)) <;> (try simp only [szR, szR] at *) <;> (first | omega | (split <;> omega)))
noncomputable def c_laws_szRowS : List V → Option (Prop × List (Nat × V) × R) := famP (fun (x : (List GRow) × Int) h => k_laws_szRowS x.1 x.2 h)
@[go_sem] theorem c_laws_szRowS_eq (a : List GRow) (left : Int) : c_laws_szRowS [(false, [.sl false [.sl false [.i .i64 0, .s []] []] (a.map (GRow.cells false false))]), (false, [.i .i64 left])] = some (0 ≤ left ∧ left ≤ 1048576, [], .one (false, [.i .i64 (szR left ((a.length + tots totRow a) : Nat))])) := famP_eq _ (by rintro ⟨_, _⟩ ⟨_, _⟩ h; simp at h; simp_all) (a, left)
theorem c_laws_szRowS_ok : ∀ vs q o r, c_laws_szRowS vs = some (q, o, r) → q → SpecO Tryz.prog 297 vs o r := famP_ok _
def ac_laws_szRel : ACode := .seq (.reg false [⟨some 2, .box 2 (.t 0), none⟩, ⟨some 4, .mov (.k (.v false [.c (.i .i64 0)])), none⟩]) (.seq (.reg false [⟨some 5, .fa 1 (.t 2), none⟩, ⟨some
  6, .ld false 1 (.t 5), none⟩, ⟨some 7, .mov (.t 1), none⟩, ⟨some 8, .call 297 [.t 6, .t 7], none⟩, ⟨some 1, .mov (.t 8), none⟩]) (.seq (.seq (.reg false
  [⟨some 9, .mov (.t 1), none⟩, ⟨some 10, .bin .lss (.t 9) (.k (.v false [.c (.i .i64 0)])), none⟩]) (.cond (.t 10) (.seq (.reg false [⟨some 4, .mov (.k (.v
  false [.c (.i .i64 (-1))])), none⟩]) .ret) .skip)) (.seq (.reg false [⟨some 11, .mov (.t 1), none⟩, ⟨some 4, .mov (.t 11), none⟩]) .ret)))
theorem hc_laws_szRel : Tryz.f236.body.bind (comp Tryz.prog Tryz.f236.ntmps) = some ac_laws_szRel := by kernel_rfl
theorem k_laws_szRel (a : GRel) (left : Int) (hpre : 0 ≤ left ∧ left ≤ 1048576) : SpecO Tryz.prog 236 [(true, [.i .i64 a.Arity, .sl false [.sl false [.i .i64 0, .s []] []] (a.Rows.map (GRow.cells false false))]), (false, [.i .i64 left])] [] (.one (false, [.i .i64 (szR left (totRel a : Nat))])) := by
  refine spec_of2 false false none Tryz.func236 hc_laws_szRel (rvs := [.t 4]) (hΓ := mkCtx_ok (deep := false) (l := [(297, [], c_laws_szRowS)]) ⟨c_laws_szRowS_ok, trivial⟩) (h := ?_)
  intro hb hE
  simp only [go_sem] at hb
  unfold ac_laws_szRel
  (try refine AX_AW ?_); simp only [go_sem]; (repeat' first | apply CJ.mk | intro hc); all_goals try ((repeat' first | apply And.intro | intro hs) <;> (try simp only [go_sem, Bool.and_eq_false_iff] at hs) <;> omega)
  all_goals ((repeat (simp (disch := omega) only [wsub] at *)) <;> (try simp only [szR, totRel] at *) <;> (first | omega | (split <;> omega)))
noncomputable def c_laws_szRel : List V → Option (Prop × List (Nat × V) × R) := famP (fun (x : GRel × Int) h => k_laws_szRel x.1 x.2 h)
@[go_sem] theorem c_laws_szRel_eq (a_Arity : Int) (a_Rows : List GRow) (left : Int) : c_laws_szRel [(true, [.i .i64 a_Arity, .sl false [.sl false [.i .i64 0, .s []] []] (a_Rows.map (GRow.cells false false))]), (false, [.i .i64 left])] = some (0 ≤ left ∧ left ≤ 1048576, [], .one (false, [.i .i64 (szR left (totRel (GRel.mk a_Arity a_Rows) : Nat))])) := famP_eq _ (by rintro ⟨⟨_, _⟩, _⟩ ⟨⟨_, _⟩, _⟩ h; simp at h; simp_all) ((GRel.mk a_Arity a_Rows), left)
theorem c_laws_szRel_ok : ∀ vs q o r, c_laws_szRel vs = some (q, o, r) → q → SpecO Tryz.prog 236 vs o r := famP_ok _
def ac_laws_szNamed : ACode := .seq (.reg false [⟨some 2, .box 3 (.t 0), none⟩, ⟨some 4, .mov (.k (.v false [.c (.i .i64 0)])), none⟩]) (.seq (.reg false [⟨some 5, .mov (.t 1), none⟩, ⟨some
  6, .fa 0 (.t 2), none⟩, ⟨some 7, .ld false 1 (.t 6), none⟩, ⟨some 8, .lens (.t 7), none⟩, ⟨some 9, .bin .sub (.t 5) (.t 8), none⟩, ⟨some 1, .mov (.t 9),
  none⟩]) (.seq (.seq (.reg false [⟨some 10, .mov (.t 1), none⟩, ⟨some 11, .bin .lss (.t 10) (.k (.v false [.c (.i .i64 0)])), none⟩]) (.cond (.t 11) (.seq
  (.reg false [⟨some 4, .mov (.k (.v false [.c (.i .i64 (-1))])), none⟩]) .ret) .skip)) (.seq (.reg false [⟨some 12, .fa 1 (.t 2), none⟩, ⟨some 13, .ld true 2
  (.t 12), none⟩, ⟨some 14, .mov (.t 1), none⟩, ⟨some 15, .call 236 [.t 13, .t 14], none⟩, ⟨some 1, .mov (.t 15), none⟩]) (.seq (.seq (.reg false [⟨some 16,
  .mov (.t 1), none⟩, ⟨some 17, .bin .lss (.t 16) (.k (.v false [.c (.i .i64 0)])), none⟩]) (.cond (.t 17) (.seq (.reg false [⟨some 4, .mov (.k (.v false [.c
  (.i .i64 (-1))])), none⟩]) .ret) .skip)) (.seq (.reg false [⟨some 18, .mov (.t 1), none⟩, ⟨some 4, .mov (.t 18), none⟩]) .ret)))))
theorem hc_laws_szNamed : Tryz.f168.body.bind (comp Tryz.prog Tryz.f168.ntmps) = some ac_laws_szNamed := by kernel_rfl
theorem k_laws_szNamed (a : GNamed) (left : Int) (hpre : 0 ≤ left ∧ left ≤ 1048576) : SpecO Tryz.prog 168 [(true, [.s a.Name, .i .i64 a.Rel.Arity, .sl false [.sl false [.i .i64 0, .s []] []] (a.Rel.Rows.map (GRow.cells false false))]), (false, [.i .i64 left])] [] (.one (false, [.i .i64 (szR left (totNamed a : Nat))])) := by
  refine spec_of2 false false none Tryz.func168 hc_laws_szNamed (rvs := [.t 4]) (hΓ := mkCtx_ok (deep := false) (l := [(236, [], c_laws_szRel)]) ⟨c_laws_szRel_ok, trivial⟩) (h := ?_)
  intro hb hE
  simp only [go_sem] at hb
  unfold ac_laws_szNamed
  (try refine AX_AW ?_); simp only [go_sem]; (repeat' first | apply CJ.mk | intro hc); all_goals try ((repeat' first | apply And.intro | intro hs) <;> (try simp only [go_sem, Bool.and_eq_false_iff] at hs) <;> omega)
  all_goals ((repeat (simp (disch := omega) only [wsub] at *)) <;> (try simp only [szR, totNamed] at *) <;> (first | omega | (split <;> omega)))
noncomputable def c_laws_szNamed : List V → Option (Prop × List (Nat × V) × R) := famP (fun (x : GNamed × Int) h => k_laws_szNamed x.1 x.2 h)
@[go_sem] theorem c_laws_szNamed_eq (a_Name : List UInt8) (a_Rel_Arity : Int) (a_Rel_Rows : List GRow) (left : Int) : c_laws_szNamed [(true, [.s a_Name, .i .i64 a_Rel_Arity, .sl false [.sl false [.i .i64 0, .s []] []] (a_Rel_Rows.map (GRow.cells false false))]), (false, [.i .i64 left])] = some (0 ≤ left ∧ left ≤ 1048576, [], .one (false, [.i .i64 (szR left (totNamed (GNamed.mk a_Name (GRel.mk a_Rel_Arity a_Rel_Rows)) : Nat))])) := famP_eq _ (by rintro ⟨⟨_, ⟨_, _⟩⟩, _⟩ ⟨⟨_, ⟨_, _⟩⟩, _⟩ h; simp at h; simp_all) ((GNamed.mk a_Name (GRel.mk a_Rel_Arity a_Rel_Rows)), left)
theorem c_laws_szNamed_ok : ∀ vs q o r, c_laws_szNamed vs = some (q, o, r) → q → SpecO Tryz.prog 168 vs o r := famP_ok _
def ac_laws_szNamedS : ACode := .seq (.reg false [⟨some 4, .mov (.k (.v false [.c (.i .i64 0)])), none⟩]) (.seq (.reg false [⟨some 6, .mov (.t 1), none⟩, ⟨some 7, .mov (.t 0), none⟩, ⟨some 8,
  .len (.t 7), none⟩, ⟨some 9, .bin .sub (.t 6) (.t 8), none⟩, ⟨some 1, .mov (.t 9), none⟩]) (.seq (.seq (.reg false [⟨some 10, .mov (.t 1), none⟩, ⟨some 11,
  .bin .lss (.t 10) (.k (.v false [.c (.i .i64 0)])), none⟩]) (.cond (.t 11) (.seq (.reg false [⟨some 4, .mov (.k (.v false [.c (.i .i64 (-1))])), none⟩]) .ret)
  .skip)) (.seq (.seq (.reg false [⟨some 5, .mov (.k (.v false [.c (.i .i64 0)])), none⟩]) (.block 0 (.loop (.seq (.seq (.reg false [⟨some 12, .mov (.t 5),
  none⟩, ⟨some 13, .mov (.t 0), none⟩, ⟨some 14, .len (.t 13), none⟩, ⟨some 15, .bin .lss (.t 12) (.t 14), none⟩]) (.cond (.t 15) .skip (.exit 0))) (.seq
  (.block 1 (.seq (.reg false [⟨some 18, .mov (.t 0), none⟩, ⟨some 19, .mov (.t 5), none⟩, ⟨some 20, .ia 3 (.t 18) (.t 19), none⟩, ⟨some 21, .ld true 3 (.t 20),
  none⟩, ⟨some 22, .mov (.t 1), none⟩, ⟨some 23, .call 168 [.t 21, .t 22], none⟩, ⟨some 1, .mov (.t 23), none⟩]) (.seq (.reg false [⟨some 24, .mov (.t 1),
  none⟩, ⟨some 25, .bin .lss (.t 24) (.k (.v false [.c (.i .i64 0)])), none⟩]) (.cond (.t 25) (.seq (.reg false [⟨some 4, .mov (.k (.v false [.c (.i .i64
  (-1))])), none⟩]) .ret) .skip)))) (.reg false [⟨some 16, .mov (.t 5), none⟩, ⟨some 17, .bin .add (.t 16) (.k (.v false [.c (.i .i64 1)])), none⟩, ⟨some 5,
  .mov (.t 17), none⟩])))))) (.seq (.reg false [⟨some 26, .mov (.t 1), none⟩, ⟨some 4, .mov (.t 26), none⟩]) .ret))))
theorem hc_laws_szNamedS : Tryz.f98.body.bind (comp Tryz.prog Tryz.f98.ntmps) = some ac_laws_szNamedS := by kernel_rfl
theorem k_laws_szNamedS (a : List GNamed) (left : Int) (hpre : 0 ≤ left ∧ left ≤ 1048576) : SpecO Tryz.prog 98 [(false, [.sl false [.s [], .i .i64 0, .sl false [.sl false [.i .i64 0, .s []] []] []] (a.map (GNamed.cells false false))]), (false, [.i .i64 left])] [] (.one (false, [.i .i64 (szR left ((a.length + tots totNamed a) : Nat))])) := by
  refine spec_of2 false false none Tryz.func98 hc_laws_szNamedS (rvs := [.t 4]) (hΓ := mkCtx_ok (deep := false) (l := [(168, [], c_laws_szNamed)]) ⟨c_laws_szNamed_ok, trivial⟩) (h := ?_)
  intro hb hE
  simp only [go_sem] at hb
  unfold ac_laws_szNamedS
  (try refine AX_AW ?_); simp only [go_sem]; (repeat' first | apply CJ.mk | intro hc); all_goals try ((repeat' first | apply And.intro | intro hs) <;> (try simp only [go_sem, Bool.and_eq_false_iff] at hs) <;> omega)
  · all_goals ((repeat (simp (disch := omega) only [wsub] at *)) <;> (try simp only [szR, szR] at *) <;> (first | omega | (split <;> omega)))
  have hw := wsub (l := left) (n := a.length) (by omega) (by omega) (by omega) (by omega)
  rw [hw] at hc
  refine aw_loop2 false [] [0] [] [] (fun i : {i : Nat // i ≤ a.length ∧ (a.length : Int) + (tots totNamed (a.take i) : Nat) ≤ left} => [(5, slV (.i .i64 i.1)), (1, slV (.i .i64 (left - a.length - (tots totNamed (a.take i.1) : Nat))))]) (fun i => []) (fun i => []) (fun i => a.length - i.1) (⟨0, by simp only [List.take_zero, tots_nil]; omega⟩) _ rfl ?_ ?_
  · simp only [go_sem, hw]
    all_goals first | omega | ((repeat' apply And.intro) <;> first | omega | rfl | skip)
  intro S0 hS0 i
  simp only [go_sem, hw] at hS0
  obtain ⟨i, hi, ht⟩ := i
  (try refine AX_AW ?_); simp only [go_sem, hw, hS0]; (repeat' first | apply CJ.mk | intro hc); all_goals try ((repeat' first | apply And.intro | intro hs) <;> (try simp only [go_sem, Bool.and_eq_false_iff] at hs) <;> omega)
  · have h1 := tots_take_succ totNamed (default : GNamed) (show i < a.length by omega)
    have h2 := tots_take_le totNamed a (i + 1)
    all_goals ((repeat (simp (disch := omega) only [wsub] at *)) <;> (try simp only [szR, szR] at *) <;> (first | omega | (split <;> omega)))
  · have h1 := tots_take_succ totNamed (default : GNamed) (show i < a.length by omega)
    (refine lpK_n2 (⟨i + 1, by omega, by unfold szR at hc; split at hc <;> omega⟩) _ rfl ?_; simp only [go_sem, hw, hS0]; first | done | ((repeat' apply And.intro) <;> first | omega | (refine w64 ?_ ?_ ?_ <;> omega) | rfl | skip))
    rw [h1]
    unfold szR at hc ⊢
    split at hc <;> omega
  · have h1 := tots_all totNamed (show ¬ i < a.length by omega)
    all_goals ((repeat (simp (disch := omega) only [wsub] at *)) <;> (try simp only [szR, szR] at *) <;> (first | omega | (split <;> omega)))
  all_goals all_goals ((repeat (simp (disch := omega) only [wsub] at *)) <;> (try simp only [szR, szR] at *) <;> (first | omega | (split <;> omega)))
noncomputable def c_laws_szNamedS : List V → Option (Prop × List (Nat × V) × R) := famP (fun (x : (List GNamed) × Int) h => k_laws_szNamedS x.1 x.2 h)
@[go_sem] theorem c_laws_szNamedS_eq (a : List GNamed) (left : Int) : c_laws_szNamedS [(false, [.sl false [.s [], .i .i64 0, .sl false [.sl false [.i .i64 0, .s []] []] []] (a.map (GNamed.cells false false))]), (false, [.i .i64 left])] = some (0 ≤ left ∧ left ≤ 1048576, [], .one (false, [.i .i64 (szR left ((a.length + tots totNamed a) : Nat))])) := famP_eq _ (by rintro ⟨_, _⟩ ⟨_, _⟩ h; simp at h; simp_all) (a, left)
theorem c_laws_szNamedS_ok : ∀ vs q o r, c_laws_szNamedS vs = some (q, o, r) → q → SpecO Tryz.prog 98 vs o r := famP_ok _
def ac_laws_szStore : ACode := .seq (.reg false [⟨some 2, .box 1 (.t 0), none⟩, ⟨some 4, .mov (.k (.v false [.c (.i .i64 0)])), none⟩]) (.seq (.reg false [⟨some 5, .fa 0 (.t 2), none⟩, ⟨some
  6, .ld false 1 (.t 5), none⟩, ⟨some 7, .mov (.t 1), none⟩, ⟨some 8, .call 98 [.t 6, .t 7], none⟩, ⟨some 1, .mov (.t 8), none⟩]) (.seq (.seq (.reg false [⟨some
  9, .mov (.t 1), none⟩, ⟨some 10, .bin .lss (.t 9) (.k (.v false [.c (.i .i64 0)])), none⟩]) (.cond (.t 10) (.seq (.reg false [⟨some 4, .mov (.k (.v false [.c
  (.i .i64 (-1))])), none⟩]) .ret) .skip)) (.seq (.reg false [⟨some 11, .mov (.t 1), none⟩, ⟨some 4, .mov (.t 11), none⟩]) .ret)))
theorem hc_laws_szStore : Tryz.f34.body.bind (comp Tryz.prog Tryz.f34.ntmps) = some ac_laws_szStore := by kernel_rfl
theorem k_laws_szStore (a : GStore) (left : Int) (hpre : 0 ≤ left ∧ left ≤ 1048576) : SpecO Tryz.prog 34 [(true, [.sl false [.s [], .i .i64 0, .sl false [.sl false [.i .i64 0, .s []] []] []] (a.Rels.map (GNamed.cells false false))]), (false, [.i .i64 left])] [] (.one (false, [.i .i64 (szR left (totStore a : Nat))])) := by
  refine spec_of2 false false none Tryz.func34 hc_laws_szStore (rvs := [.t 4]) (hΓ := mkCtx_ok (deep := false) (l := [(98, [], c_laws_szNamedS)]) ⟨c_laws_szNamedS_ok, trivial⟩) (h := ?_)
  intro hb hE
  simp only [go_sem] at hb
  unfold ac_laws_szStore
  (try refine AX_AW ?_); simp only [go_sem]; (repeat' first | apply CJ.mk | intro hc); all_goals try ((repeat' first | apply And.intro | intro hs) <;> (try simp only [go_sem, Bool.and_eq_false_iff] at hs) <;> omega)
  all_goals ((repeat (simp (disch := omega) only [wsub] at *)) <;> (try simp only [szR, totStore] at *) <;> (first | omega | (split <;> omega)))
noncomputable def c_laws_szStore : List V → Option (Prop × List (Nat × V) × R) := famP (fun (x : GStore × Int) h => k_laws_szStore x.1 x.2 h)
@[go_sem] theorem c_laws_szStore_eq (a_Rels : List GNamed) (left : Int) : c_laws_szStore [(true, [.sl false [.s [], .i .i64 0, .sl false [.sl false [.i .i64 0, .s []] []] []] (a_Rels.map (GNamed.cells false false))]), (false, [.i .i64 left])] = some (0 ≤ left ∧ left ≤ 1048576, [], .one (false, [.i .i64 (szR left (totStore (GStore.mk a_Rels) : Nat))])) := famP_eq _ (by rintro ⟨⟨_⟩, _⟩ ⟨⟨_⟩, _⟩ h; simp at h; simp_all) ((GStore.mk a_Rels), left)
theorem c_laws_szStore_ok : ∀ vs q o r, c_laws_szStore vs = some (q, o, r) → q → SpecO Tryz.prog 34 vs o r := famP_ok _
def ac_laws_toValueS : ACode := .seq (.reg false [⟨some 2, .mov (.k (.v false [.nl [.i .i64 0, .s []]])), none⟩]) (.seq (.reg false [⟨some 5, .mov (.t 0), none⟩, ⟨some 6, .len (.t 5), none⟩,
  ⟨some 7, .mks 2 24 [.i .i64, .s] (.t 6) (.t 6), none⟩, ⟨some 3, .mov (.t 7), none⟩]) (.seq (.seq (.reg false [⟨some 4, .mov (.k (.v false [.c (.i .i64 0)])),
  none⟩]) (.block 0 (.loop (.seq (.seq (.reg false [⟨some 8, .mov (.t 4), none⟩, ⟨some 9, .mov (.t 0), none⟩, ⟨some 10, .len (.t 9), none⟩, ⟨some 11, .bin .lss
  (.t 8) (.t 10), none⟩]) (.cond (.t 11) .skip (.exit 0))) (.seq (.block 1 (.reg false [⟨some 14, .mov (.t 3), none⟩, ⟨some 15, .mov (.t 4), none⟩, ⟨some 16,
  .mov (.t 0), none⟩, ⟨some 17, .mov (.t 4), none⟩, ⟨some 18, .ia 2 (.t 16) (.t 17), none⟩, ⟨some 19, .ld true 2 (.t 18), none⟩, ⟨some 20, .call 255 [.t 19],
  none⟩, ⟨some 21, .ia 2 (.t 14) (.t 15), none⟩, ⟨none, .st 2 (.t 21) (.t 20), none⟩])) (.reg false [⟨some 12, .mov (.t 4), none⟩, ⟨some 13, .bin .add (.t 12)
  (.k (.v false [.c (.i .i64 1)])), none⟩, ⟨some 4, .mov (.t 13), none⟩])))))) (.seq (.reg false [⟨some 22, .mov (.t 3), none⟩, ⟨some 2, .mov (.t 22), none⟩])
  .ret)))
theorem hc_laws_toValueS : Tryz.f182.body.bind (comp Tryz.prog Tryz.f182.ntmps) = some ac_laws_toValueS := by kernel_rfl
theorem k_laws_toValueS (a : List GValue) (hpre : (((a.length + tots totValue a) : Nat) : Int) ≤ 1048576) : SpecO Tryz.prog 182 [(false, [.sl false [.i .i64 0, .s []] (a.map GValue.cells)])] [] (.one (false, [.sl true [.i .i64 0, .s []] (a.map GValue.cells)])) := by
  refine spec_of2 true false none Tryz.func182 hc_laws_toValueS (rvs := [.t 2]) (hΓ := mkCtx_ok (deep := true) (l := [(255, [], c_laws_toValue)]) ⟨c_laws_toValue_ok, trivial⟩) (h := ?_)
  intro hb hE
  simp only [go_sem] at hb
  unfold ac_laws_toValueS
  (try refine AX_AW ?_); simp only [go_sem, GValue_rep]; (repeat' first | apply CJ.mk | intro hc); all_goals try ((repeat' first | apply And.intro | intro hs) <;> (try simp only [go_sem, Bool.and_eq_false_iff] at hs) <;> omega)
  refine aw_loop2 true [] [0, 3] [] [] (fun i : {p : Nat × (List GValue) // p.1 ≤ a.length ∧ p.2.length = a.length ∧ p.2.take p.1 = a.take p.1} => [(4, slV (.i .i64 i.1.1))]) (fun i => []) (fun i => [(896, [.i .i64 0, .s []], i.1.2.map GValue.cells)]) (fun i => a.length - i.1.1) (⟨(0, List.replicate a.length default), by simp⟩) _ rfl ?_ ?_
  · simp only [go_sem, GValue_rep]
    all_goals first | omega | ((repeat' apply And.intro) <;> first | omega | rfl | skip)
  intro S0 hS0 i
  simp only [go_sem, GValue_rep] at hS0
  obtain ⟨⟨i, L⟩, hi, hl, ht⟩ := i
  simp only at hi hl ht
  (try refine AX_AW ?_); simp only [go_sem, GValue_rep, hS0]; (repeat' first | apply CJ.mk | intro hc); all_goals try ((repeat' first | apply And.intro | intro hs) <;> (try simp only [go_sem, Bool.and_eq_false_iff] at hs) <;> omega)
  · (refine lpK_n2 (⟨(i + 1, L.set i (a.getD i default)), by simp only; omega, by simp [hl], take_set_succ hl ht (by omega)⟩) _ rfl ?_; simp only [go_sem, GValue_rep, hS0]; first | done | ((repeat' apply And.intro) <;> first | omega | (refine w64 ?_ ?_ ?_ <;> omega) | rfl | skip))
  · obtain rfl := eq_of_take hl ht (by omega)
    rfl
  all_goals trace_state
noncomputable def c_laws_toValueS : List V → Option (Prop × List (Nat × V) × R) := famP (fun (x : (List GValue)) h => k_laws_toValueS x h)
@[go_sem] theorem c_laws_toValueS_eq (a : List GValue) : c_laws_toValueS [(false, [.sl false [.i .i64 0, .s []] (a.map GValue.cells)])] = some ((((a.length + tots totValue a) : Nat) : Int) ≤ 1048576, [], .one (false, [.sl true [.i .i64 0, .s []] (a.map GValue.cells)])) := famP_eq _ (by intro x y h; simp at h; simp_all) a
theorem c_laws_toValueS_ok : ∀ vs q o r, c_laws_toValueS vs = some (q, o, r) → q → SpecO Tryz.prog 182 vs o r := famP_ok _
def ac_laws_toRow : ACode := .seq (.reg false [⟨some 1, .box 1 (.t 0), none⟩, ⟨some 2, .alloc [.sl [.i .i64 0, .s []]], none⟩]) (.seq (.reg false [⟨some 3, .alloc [.sl [.i .i64 0, .s []]],
  none⟩]) (.seq (.reg false [⟨some 4, .fa 0 (.t 1), none⟩, ⟨some 5, .ld false 1 (.t 4), none⟩, ⟨some 6, .call 182 [.t 5], none⟩, ⟨some 7, .fa 0 (.t 3), none⟩,
  ⟨none, .st 1 (.t 7) (.t 6), none⟩]) (.seq (.reg false [⟨some 8, .ld true 1 (.t 3), none⟩, ⟨none, .st 1 (.t 2) (.t 8), none⟩]) .ret)))
theorem hc_laws_toRow : Tryz.f114.body.bind (comp Tryz.prog Tryz.f114.ntmps) = some ac_laws_toRow := by kernel_rfl
theorem k_laws_toRow (a : GRow) (hpre : (totRow a : Int) ≤ 1048576) : SpecO Tryz.prog 114 [(true, [.sl false [.i .i64 0, .s []] (a.V.map GValue.cells)])] [] (.one (true, [.sl true [.i .i64 0, .s []] (a.V.map GValue.cells)])) := by
  refine spec_of2 true false none Tryz.func114 hc_laws_toRow (rvs := [.c 2 true 1]) (hΓ := mkCtx_ok (deep := true) (l := [(182, [], c_laws_toValueS)]) ⟨c_laws_toValueS_ok, trivial⟩) (h := ?_)
  intro hb hE
  simp only [go_sem] at hb
  unfold ac_laws_toRow
  (try refine AX_AW ?_); simp only [go_sem]; (repeat' first | apply CJ.mk | intro hc); all_goals try ((repeat' first | apply And.intro | intro hs) <;> (try simp only [go_sem, Bool.and_eq_false_iff] at hs) <;> omega)
  all_goals (simp only [totRow] at *; omega)
noncomputable def c_laws_toRow : List V → Option (Prop × List (Nat × V) × R) := famP (fun (x : GRow) h => k_laws_toRow x h)
@[go_sem] theorem c_laws_toRow_eq (a_V : List GValue) : c_laws_toRow [(true, [.sl false [.i .i64 0, .s []] (a_V.map GValue.cells)])] = some ((totRow (GRow.mk a_V) : Int) ≤ 1048576, [], .one (true, [.sl true [.i .i64 0, .s []] (((GRow.mk a_V).V).map GValue.cells)])) := famP_eq _ (by rintro ⟨_⟩ ⟨_⟩ h; simp at h; simp_all) (GRow.mk a_V)
theorem c_laws_toRow_ok : ∀ vs q o r, c_laws_toRow vs = some (q, o, r) → q → SpecO Tryz.prog 114 vs o r := famP_ok _
def ac_laws_toRowS : ACode := .seq (.reg false [⟨some 2, .mov (.k (.v false [.nl [.sl false [.i .i64 0, .s []] []]])), none⟩]) (.seq (.reg false [⟨some 5, .mov (.t 0), none⟩, ⟨some 6, .len
  (.t 5), none⟩, ⟨some 7, .mks 1 24 [.sl [.i .i64 0, .s []]] (.t 6) (.t 6), none⟩, ⟨some 3, .mov (.t 7), none⟩]) (.seq (.seq (.reg false [⟨some 4, .mov (.k (.v
  false [.c (.i .i64 0)])), none⟩]) (.block 0 (.loop (.seq (.seq (.reg false [⟨some 8, .mov (.t 4), none⟩, ⟨some 9, .mov (.t 0), none⟩, ⟨some 10, .len (.t 9),
  none⟩, ⟨some 11, .bin .lss (.t 8) (.t 10), none⟩]) (.cond (.t 11) .skip (.exit 0))) (.seq (.block 1 (.reg false [⟨some 14, .mov (.t 3), none⟩, ⟨some 15, .mov
  (.t 4), none⟩, ⟨some 16, .mov (.t 0), none⟩, ⟨some 17, .mov (.t 4), none⟩, ⟨some 18, .ia 1 (.t 16) (.t 17), none⟩, ⟨some 19, .ld true 1 (.t 18), none⟩, ⟨some
  20, .call 114 [.t 19], none⟩, ⟨some 21, .ia 1 (.t 14) (.t 15), none⟩, ⟨none, .st 1 (.t 21) (.t 20), none⟩])) (.reg false [⟨some 12, .mov (.t 4), none⟩, ⟨some
  13, .bin .add (.t 12) (.k (.v false [.c (.i .i64 1)])), none⟩, ⟨some 4, .mov (.t 13), none⟩])))))) (.seq (.reg false [⟨some 22, .mov (.t 3), none⟩, ⟨some 2,
  .mov (.t 22), none⟩]) .ret)))
theorem hc_laws_toRowS : Tryz.f299.body.bind (comp Tryz.prog Tryz.f299.ntmps) = some ac_laws_toRowS := by kernel_rfl
theorem k_laws_toRowS (a : List GRow) (hpre : (((a.length + tots totRow a) : Nat) : Int) ≤ 1048576) : SpecO Tryz.prog 299 [(false, [.sl false [.sl false [.i .i64 0, .s []] []] (a.map (GRow.cells false false))])] [] (.one (false, [.sl true [.sl true [.i .i64 0, .s []] []] (a.map (GRow.cells true true))])) := by
  refine spec_of2 true false none Tryz.func299 hc_laws_toRowS (rvs := [.t 2]) (hΓ := mkCtx_ok (deep := true) (l := [(114, [], c_laws_toRow)]) ⟨c_laws_toRow_ok, trivial⟩) (h := ?_)
  intro hb hE
  simp only [go_sem] at hb
  unfold ac_laws_toRowS
  (try refine AX_AW ?_); simp only [go_sem, GRow_rep]; (repeat' first | apply CJ.mk | intro hc); all_goals try ((repeat' first | apply And.intro | intro hs) <;> (try simp only [go_sem, Bool.and_eq_false_iff] at hs) <;> omega)
  refine aw_loop2 true [] [0, 3] [] [] (fun i : {p : Nat × (List GRow) // p.1 ≤ a.length ∧ p.2.length = a.length ∧ p.2.take p.1 = a.take p.1} => [(4, slV (.i .i64 i.1.1))]) (fun i => []) (fun i => [(896, [.sl true [.i .i64 0, .s []] []], i.1.2.map (GRow.cells true true))]) (fun i => a.length - i.1.1) (⟨(0, List.replicate a.length default), by simp⟩) _ rfl ?_ ?_
  · simp only [go_sem, GRow_rep]
    all_goals first | omega | ((repeat' apply And.intro) <;> first | omega | rfl | skip)
  intro S0 hS0 i
  simp only [go_sem, GRow_rep] at hS0
  obtain ⟨⟨i, L⟩, hi, hl, ht⟩ := i
  simp only at hi hl ht
  have hg := tots_getD totRow a i default rfl
  (try refine AX_AW ?_); simp only [go_sem, GRow_rep, hS0]; (repeat' first | apply CJ.mk | intro hc); all_goals try ((repeat' first | apply And.intro | intro hs) <;> (try simp only [go_sem, Bool.and_eq_false_iff] at hs) <;> omega)
  · (refine lpK_n2 (⟨(i + 1, L.set i (a.getD i default)), by simp only; omega, by simp [hl], take_set_succ hl ht (by omega)⟩) _ rfl ?_; simp only [go_sem, GRow_rep, hS0]; first | done | ((repeat' apply And.intro) <;> first | omega | (refine w64 ?_ ?_ ?_ <;> omega) | rfl | skip))
  · obtain rfl := eq_of_take hl ht (by omega)
    rfl
  all_goals trace_state
noncomputable def c_laws_toRowS : List V → Option (Prop × List (Nat × V) × R) := famP (fun (x : (List GRow)) h => k_laws_toRowS x h)
@[go_sem] theorem c_laws_toRowS_eq (a : List GRow) : c_laws_toRowS [(false, [.sl false [.sl false [.i .i64 0, .s []] []] (a.map (GRow.cells false false))])] = some ((((a.length + tots totRow a) : Nat) : Int) ≤ 1048576, [], .one (false, [.sl true [.sl true [.i .i64 0, .s []] []] (a.map (GRow.cells true true))])) := famP_eq _ (by intro x y h; simp at h; simp_all) a
theorem c_laws_toRowS_ok : ∀ vs q o r, c_laws_toRowS vs = some (q, o, r) → q → SpecO Tryz.prog 299 vs o r := famP_ok _
def ac_laws_toRel : ACode := .seq (.reg false [⟨some 1, .box 2 (.t 0), none⟩, ⟨some 2, .alloc [.i .i64, .sl [.sl false [.i .i64 0, .s []] []]], none⟩]) (.seq (.reg false [⟨some 3, .alloc
  [.i .i64, .sl [.sl false [.i .i64 0, .s []] []]], none⟩]) (.seq (.reg false [⟨some 4, .fa 0 (.t 1), none⟩, ⟨some 5, .ld false 1 (.t 4), none⟩, ⟨some 6, .fa 0
  (.t 3), none⟩, ⟨none, .st 1 (.t 6) (.t 5), none⟩]) (.seq (.reg false [⟨some 7, .fa 1 (.t 1), none⟩, ⟨some 8, .ld false 1 (.t 7), none⟩, ⟨some 9, .call 299 [.t
  8], none⟩, ⟨some 10, .fa 1 (.t 3), none⟩, ⟨none, .st 1 (.t 10) (.t 9), none⟩]) (.seq (.reg false [⟨some 11, .ld true 2 (.t 3), none⟩, ⟨none, .st 2 (.t 2) (.t
  11), none⟩]) .ret))))
theorem hc_laws_toRel : Tryz.f238.body.bind (comp Tryz.prog Tryz.f238.ntmps) = some ac_laws_toRel := by kernel_rfl
theorem k_laws_toRel (a : GRel) (hpre : (totRel a : Int) ≤ 1048576) : SpecO Tryz.prog 238 [(true, [.i .i64 a.Arity, .sl false [.sl false [.i .i64 0, .s []] []] (a.Rows.map (GRow.cells false false))])] [] (.one (true, [.i .i64 a.Arity, .sl true [.sl true [.i .i64 0, .s []] []] (a.Rows.map (GRow.cells true true))])) := by
  refine spec_of2 true false none Tryz.func238 hc_laws_toRel (rvs := [.c 2 true 2]) (hΓ := mkCtx_ok (deep := true) (l := [(299, [], c_laws_toRowS)]) ⟨c_laws_toRowS_ok, trivial⟩) (h := ?_)
  intro hb hE
  simp only [go_sem] at hb
  unfold ac_laws_toRel
  (try refine AX_AW ?_); simp only [go_sem]; (repeat' first | apply CJ.mk | intro hc); all_goals try ((repeat' first | apply And.intro | intro hs) <;> (try simp only [go_sem, Bool.and_eq_false_iff] at hs) <;> omega)
  all_goals (simp only [totRel] at *; omega)
noncomputable def c_laws_toRel : List V → Option (Prop × List (Nat × V) × R) := famP (fun (x : GRel) h => k_laws_toRel x h)
@[go_sem] theorem c_laws_toRel_eq (a_Arity : Int) (a_Rows : List GRow) : c_laws_toRel [(true, [.i .i64 a_Arity, .sl false [.sl false [.i .i64 0, .s []] []] (a_Rows.map (GRow.cells false false))])] = some ((totRel (GRel.mk a_Arity a_Rows) : Int) ≤ 1048576, [], .one (true, [.i .i64 ((GRel.mk a_Arity a_Rows).Arity), .sl true [.sl true [.i .i64 0, .s []] []] (((GRel.mk a_Arity a_Rows).Rows).map (GRow.cells true true))])) := famP_eq _ (by rintro ⟨_, _⟩ ⟨_, _⟩ h; simp at h; simp_all) (GRel.mk a_Arity a_Rows)
theorem c_laws_toRel_ok : ∀ vs q o r, c_laws_toRel vs = some (q, o, r) → q → SpecO Tryz.prog 238 vs o r := famP_ok _
def ac_laws_toNamed : ACode := .seq (.reg false [⟨some 1, .box 3 (.t 0), none⟩, ⟨some 2, .alloc [.s, .i .i64, .sl [.sl false [.i .i64 0, .s []] []]], none⟩]) (.seq (.reg false [⟨some 3,
  .alloc [.s, .i .i64, .sl [.sl false [.i .i64 0, .s []] []]], none⟩]) (.seq (.reg false [⟨some 4, .fa 0 (.t 1), none⟩, ⟨some 5, .ld false 1 (.t 4), none⟩,
  ⟨some 6, .fa 0 (.t 3), none⟩, ⟨none, .st 1 (.t 6) (.t 5), none⟩]) (.seq (.reg false [⟨some 7, .fa 1 (.t 1), none⟩, ⟨some 8, .ld true 2 (.t 7), none⟩, ⟨some 9,
  .call 238 [.t 8], none⟩, ⟨some 10, .fa 1 (.t 3), none⟩, ⟨none, .st 2 (.t 10) (.t 9), none⟩]) (.seq (.reg false [⟨some 11, .ld true 3 (.t 3), none⟩, ⟨none, .st
  3 (.t 2) (.t 11), none⟩]) .ret))))
theorem hc_laws_toNamed : Tryz.f171.body.bind (comp Tryz.prog Tryz.f171.ntmps) = some ac_laws_toNamed := by kernel_rfl
theorem k_laws_toNamed (a : GNamed) (hpre : (totNamed a : Int) ≤ 1048576) : SpecO Tryz.prog 171 [(true, [.s a.Name, .i .i64 a.Rel.Arity, .sl false [.sl false [.i .i64 0, .s []] []] (a.Rel.Rows.map (GRow.cells false false))])] [] (.one (true, [.s a.Name, .i .i64 a.Rel.Arity, .sl true [.sl true [.i .i64 0, .s []] []] (a.Rel.Rows.map (GRow.cells true true))])) := by
  refine spec_of2 true false none Tryz.func171 hc_laws_toNamed (rvs := [.c 2 true 3]) (hΓ := mkCtx_ok (deep := true) (l := [(238, [], c_laws_toRel)]) ⟨c_laws_toRel_ok, trivial⟩) (h := ?_)
  intro hb hE
  simp only [go_sem] at hb
  unfold ac_laws_toNamed
  (try refine AX_AW ?_); simp only [go_sem]; (repeat' first | apply CJ.mk | intro hc); all_goals try ((repeat' first | apply And.intro | intro hs) <;> (try simp only [go_sem, Bool.and_eq_false_iff] at hs) <;> omega)
  all_goals (simp only [totNamed] at *; omega)
noncomputable def c_laws_toNamed : List V → Option (Prop × List (Nat × V) × R) := famP (fun (x : GNamed) h => k_laws_toNamed x h)
@[go_sem] theorem c_laws_toNamed_eq (a_Name : List UInt8) (a_Rel_Arity : Int) (a_Rel_Rows : List GRow) : c_laws_toNamed [(true, [.s a_Name, .i .i64 a_Rel_Arity, .sl false [.sl false [.i .i64 0, .s []] []] (a_Rel_Rows.map (GRow.cells false false))])] = some ((totNamed (GNamed.mk a_Name (GRel.mk a_Rel_Arity a_Rel_Rows)) : Int) ≤ 1048576, [], .one (true, [.s ((GNamed.mk a_Name (GRel.mk a_Rel_Arity a_Rel_Rows)).Name), .i .i64 (((GNamed.mk a_Name (GRel.mk a_Rel_Arity a_Rel_Rows)).Rel).Arity), .sl true [.sl true [.i .i64 0, .s []] []] ((((GNamed.mk a_Name (GRel.mk a_Rel_Arity a_Rel_Rows)).Rel).Rows).map (GRow.cells true true))])) := famP_eq _ (by rintro ⟨_, ⟨_, _⟩⟩ ⟨_, ⟨_, _⟩⟩ h; simp at h; simp_all) (GNamed.mk a_Name (GRel.mk a_Rel_Arity a_Rel_Rows))
theorem c_laws_toNamed_ok : ∀ vs q o r, c_laws_toNamed vs = some (q, o, r) → q → SpecO Tryz.prog 171 vs o r := famP_ok _
def ac_laws_toNamedS : ACode := .seq (.reg false [⟨some 2, .mov (.k (.v false [.nl [.s [], .i .i64 0, .sl false [.sl false [.i .i64 0, .s []] []] []]])), none⟩]) (.seq (.reg false [⟨some 5,
  .mov (.t 0), none⟩, ⟨some 6, .len (.t 5), none⟩, ⟨some 7, .mks 3 48 [.s, .i .i64, .sl [.sl false [.i .i64 0, .s []] []]] (.t 6) (.t 6), none⟩, ⟨some 3, .mov
  (.t 7), none⟩]) (.seq (.seq (.reg false [⟨some 4, .mov (.k (.v false [.c (.i .i64 0)])), none⟩]) (.block 0 (.loop (.seq (.seq (.reg false [⟨some 8, .mov (.t
  4), none⟩, ⟨some 9, .mov (.t 0), none⟩, ⟨some 10, .len (.t 9), none⟩, ⟨some 11, .bin .lss (.t 8) (.t 10), none⟩]) (.cond (.t 11) .skip (.exit 0))) (.seq
  (.block 1 (.reg false [⟨some 14, .mov (.t 3), none⟩, ⟨some 15, .mov (.t 4), none⟩, ⟨some 16, .mov (.t 0), none⟩, ⟨some 17, .mov (.t 4), none⟩, ⟨some 18, .ia 3
  (.t 16) (.t 17), none⟩, ⟨some 19, .ld true 3 (.t 18), none⟩, ⟨some 20, .call 171 [.t 19], none⟩, ⟨some 21, .ia 3 (.t 14) (.t 15), none⟩, ⟨none, .st 3 (.t 21)
  (.t 20), none⟩])) (.reg false [⟨some 12, .mov (.t 4), none⟩, ⟨some 13, .bin .add (.t 12) (.k (.v false [.c (.i .i64 1)])), none⟩, ⟨some 4, .mov (.t 13),
  none⟩])))))) (.seq (.reg false [⟨some 22, .mov (.t 3), none⟩, ⟨some 2, .mov (.t 22), none⟩]) .ret)))
theorem hc_laws_toNamedS : Tryz.f103.body.bind (comp Tryz.prog Tryz.f103.ntmps) = some ac_laws_toNamedS := by kernel_rfl
theorem k_laws_toNamedS (a : List GNamed) (hpre : (((a.length + tots totNamed a) : Nat) : Int) ≤ 1048576) : SpecO Tryz.prog 103 [(false, [.sl false [.s [], .i .i64 0, .sl false [.sl false [.i .i64 0, .s []] []] []] (a.map (GNamed.cells false false))])] [] (.one (false, [.sl true [.s [], .i .i64 0, .sl true [.sl true [.i .i64 0, .s []] []] []] (a.map (GNamed.cells true true))])) := by
  refine spec_of2 true false none Tryz.func103 hc_laws_toNamedS (rvs := [.t 2]) (hΓ := mkCtx_ok (deep := true) (l := [(171, [], c_laws_toNamed)]) ⟨c_laws_toNamed_ok, trivial⟩) (h := ?_)
  intro hb hE
  simp only [go_sem] at hb
  unfold ac_laws_toNamedS
  (try refine AX_AW ?_); simp only [go_sem, GNamed_rep]; (repeat' first | apply CJ.mk | intro hc); all_goals try ((repeat' first | apply And.intro | intro hs) <;> (try simp only [go_sem, Bool.and_eq_false_iff] at hs) <;> omega)
  refine aw_loop2 true [] [0, 3] [] [] (fun i : {p : Nat × (List GNamed) // p.1 ≤ a.length ∧ p.2.length = a.length ∧ p.2.take p.1 = a.take p.1} => [(4, slV (.i .i64 i.1.1))]) (fun i => []) (fun i => [(896, [.s [], .i .i64 0, .sl true [.sl true [.i .i64 0, .s []] []] []], i.1.2.map (GNamed.cells true true))]) (fun i => a.length - i.1.1) (⟨(0, List.replicate a.length default), by simp⟩) _ rfl ?_ ?_
  · simp only [go_sem, GNamed_rep]
    all_goals first | omega | ((repeat' apply And.intro) <;> first | omega | rfl | skip)
  intro S0 hS0 i
  simp only [go_sem, GNamed_rep] at hS0
  obtain ⟨⟨i, L⟩, hi, hl, ht⟩ := i
  simp only at hi hl ht
  have hg := tots_getD totNamed a i default rfl
  (try refine AX_AW ?_); simp only [go_sem, GNamed_rep, hS0]; (repeat' first | apply CJ.mk | intro hc); all_goals try ((repeat' first | apply And.intro | intro hs) <;> (try simp only [go_sem, Bool.and_eq_false_iff] at hs) <;> omega)
  · (refine lpK_n2 (⟨(i + 1, L.set i (a.getD i default)), by simp only; omega, by simp [hl], take_set_succ hl ht (by omega)⟩) _ rfl ?_; simp only [go_sem, GNamed_rep, hS0]; first | done | ((repeat' apply And.intro) <;> first | omega | (refine w64 ?_ ?_ ?_ <;> omega) | rfl | skip))
  · obtain rfl := eq_of_take hl ht (by omega)
    rfl
  all_goals trace_state
noncomputable def c_laws_toNamedS : List V → Option (Prop × List (Nat × V) × R) := famP (fun (x : (List GNamed)) h => k_laws_toNamedS x h)
@[go_sem] theorem c_laws_toNamedS_eq (a : List GNamed) : c_laws_toNamedS [(false, [.sl false [.s [], .i .i64 0, .sl false [.sl false [.i .i64 0, .s []] []] []] (a.map (GNamed.cells false false))])] = some ((((a.length + tots totNamed a) : Nat) : Int) ≤ 1048576, [], .one (false, [.sl true [.s [], .i .i64 0, .sl true [.sl true [.i .i64 0, .s []] []] []] (a.map (GNamed.cells true true))])) := famP_eq _ (by intro x y h; simp at h; simp_all) a
theorem c_laws_toNamedS_ok : ∀ vs q o r, c_laws_toNamedS vs = some (q, o, r) → q → SpecO Tryz.prog 103 vs o r := famP_ok _
def ac_laws_toStore : ACode := .seq (.reg false [⟨some 1, .box 1 (.t 0), none⟩, ⟨some 2, .alloc [.sl [.s [], .i .i64 0, .sl false [.sl false [.i .i64 0, .s []] []] []]], none⟩]) (.seq (.reg
  false [⟨some 3, .alloc [.sl [.s [], .i .i64 0, .sl false [.sl false [.i .i64 0, .s []] []] []]], none⟩]) (.seq (.reg false [⟨some 4, .fa 0 (.t 1), none⟩,
  ⟨some 5, .ld false 1 (.t 4), none⟩, ⟨some 6, .call 103 [.t 5], none⟩, ⟨some 7, .fa 0 (.t 3), none⟩, ⟨none, .st 1 (.t 7) (.t 6), none⟩]) (.seq (.reg false
  [⟨some 8, .ld true 1 (.t 3), none⟩, ⟨none, .st 1 (.t 2) (.t 8), none⟩]) .ret)))
theorem hc_laws_toStore : Tryz.f36.body.bind (comp Tryz.prog Tryz.f36.ntmps) = some ac_laws_toStore := by kernel_rfl
theorem k_laws_toStore (a : GStore) (hpre : (totStore a : Int) ≤ 1048576) : SpecO Tryz.prog 36 [(true, [.sl false [.s [], .i .i64 0, .sl false [.sl false [.i .i64 0, .s []] []] []] (a.Rels.map (GNamed.cells false false))])] [] (.one (true, [.sl true [.s [], .i .i64 0, .sl true [.sl true [.i .i64 0, .s []] []] []] (a.Rels.map (GNamed.cells true true))])) := by
  refine spec_of2 true false none Tryz.func36 hc_laws_toStore (rvs := [.c 2 true 1]) (hΓ := mkCtx_ok (deep := true) (l := [(103, [], c_laws_toNamedS)]) ⟨c_laws_toNamedS_ok, trivial⟩) (h := ?_)
  intro hb hE
  simp only [go_sem] at hb
  unfold ac_laws_toStore
  (try refine AX_AW ?_); simp only [go_sem]; (repeat' first | apply CJ.mk | intro hc); all_goals try ((repeat' first | apply And.intro | intro hs) <;> (try simp only [go_sem, Bool.and_eq_false_iff] at hs) <;> omega)
  all_goals (simp only [totStore] at *; omega)
noncomputable def c_laws_toStore : List V → Option (Prop × List (Nat × V) × R) := famP (fun (x : GStore) h => k_laws_toStore x h)
@[go_sem] theorem c_laws_toStore_eq (a_Rels : List GNamed) : c_laws_toStore [(true, [.sl false [.s [], .i .i64 0, .sl false [.sl false [.i .i64 0, .s []] []] []] (a_Rels.map (GNamed.cells false false))])] = some ((totStore (GStore.mk a_Rels) : Int) ≤ 1048576, [], .one (true, [.sl true [.s [], .i .i64 0, .sl true [.sl true [.i .i64 0, .s []] []] []] (((GStore.mk a_Rels).Rels).map (GNamed.cells true true))])) := famP_eq _ (by rintro ⟨_⟩ ⟨_⟩ h; simp at h; simp_all) (GStore.mk a_Rels)
theorem c_laws_toStore_ok : ∀ vs q o r, c_laws_toStore vs = some (q, o, r) → q → SpecO Tryz.prog 36 vs o r := famP_ok _
def ac_laws_eqRowS : ACode := .seq (.reg false [⟨some 4, .mov (.k (.v false [.c (.b false)])), none⟩]) (.seq (.seq (.reg false [⟨some 6, .mov (.t 0), none⟩, ⟨some 7, .len (.t 6), none⟩,
  ⟨some 8, .mov (.t 1), none⟩, ⟨some 9, .len (.t 8), none⟩, ⟨some 10, .bin .neq (.t 7) (.t 9), none⟩]) (.cond (.t 10) (.seq (.reg false [⟨some 4, .mov (.k (.v
  false [.c (.b false)])), none⟩]) .ret) .skip)) (.seq (.seq (.reg false [⟨some 5, .mov (.k (.v false [.c (.i .i64 0)])), none⟩]) (.block 0 (.loop (.seq (.seq
  (.reg false [⟨some 11, .mov (.t 5), none⟩, ⟨some 12, .mov (.t 0), none⟩, ⟨some 13, .len (.t 12), none⟩, ⟨some 14, .bin .lss (.t 11) (.t 13), none⟩]) (.cond
  (.t 14) .skip (.exit 0))) (.seq (.block 1 (.seq (.reg true [⟨some 17, .mov (.t 0), none⟩, ⟨some 18, .mov (.t 5), none⟩, ⟨some 19, .ia 1 (.t 17) (.t 18),
  none⟩, ⟨some 20, .ld true 1 (.t 19), none⟩, ⟨some 21, .mov (.t 1), none⟩, ⟨some 22, .mov (.t 5), none⟩, ⟨some 23, .ia 1 (.t 21) (.t 22), none⟩, ⟨some 24, .ld
  true 1 (.t 23), none⟩, ⟨some 25, .call 116 [.t 20, .t 24], none⟩, ⟨some 26, .not (.t 25), none⟩]) (.cond (.t 26) (.seq (.reg false [⟨some 4, .mov (.k (.v
  false [.c (.b false)])), none⟩]) .ret) .skip))) (.reg false [⟨some 15, .mov (.t 5), none⟩, ⟨some 16, .bin .add (.t 15) (.k (.v false [.c (.i .i64 1)])),
  none⟩, ⟨some 5, .mov (.t 16), none⟩])))))) (.seq (.reg false [⟨some 4, .mov (.k (.v false [.c (.b true)])), none⟩]) .ret)))
theorem hc_laws_eqRowS : Tryz.f287.body.bind (comp Tryz.prog Tryz.f287.ntmps) = some ac_laws_eqRowS := by kernel_rfl
theorem k_laws_eqRowS (a : List GRow) (b : List GRow) : SpecO Tryz.prog 287 [(false, [.sl false [.sl false [.i .i64 0, .s []] []] (a.map (GRow.cells false false))]), (false, [.sl false [.sl false [.i .i64 0, .s []] []] (b.map (GRow.cells false false))])] [] (.one (false, [.b (decide (a = b))])) := by
  refine spec_of2 false false none Tryz.func287 hc_laws_eqRowS (rvs := [.t 4]) (hΓ := mkCtx_ok (deep := false) (l := [(116, [], c_laws_eqRow)]) ⟨c_laws_eqRow_ok, trivial⟩) (h := ?_)
  intro hb hE
  simp only [go_sem] at hb
  unfold ac_laws_eqRowS
  (try refine AX_AW ?_); simp only [go_sem]; (repeat' first | apply CJ.mk | intro hc); all_goals try ((repeat' first | apply And.intro | intro hs) <;> (try simp only [go_sem, Bool.and_eq_false_iff] at hs) <;> omega)
  · symm
    rw [decide_eq_false_iff_not]
    rintro rfl
    simp at hc
  have hl : a.length = b.length := by simpa [Int.ofNat_inj] using hc
  refine aw_loop2 false [] [0, 1] [] [] (fun i : {i : Nat // i ≤ a.length ∧ a.take i = b.take i} => [(5, slV (.i .i64 i.1))]) (fun i => []) (fun i => []) (fun i => a.length - i.1) (⟨0, by simp⟩) _ rfl ?_ ?_
  · simp only [go_sem]
    all_goals first | omega | ((repeat' apply And.intro) <;> first | omega | rfl | skip)
  intro S0 hS0 i
  simp only [go_sem] at hS0
  obtain ⟨i, hi, ht⟩ := i
  (try refine AX_AW ?_); simp only [go_sem, hS0]; (repeat' first | apply CJ.mk | intro hc); all_goals try ((repeat' first | apply And.intro | intro hs) <;> (try simp only [go_sem, Bool.and_eq_false_iff] at hs) <;> omega)
  · exact (decide_eq_false (ne_of_getD default (i := i) (by simpa using hc))).symm
  · (refine lpK_n2 (⟨i + 1, by omega, take_succ_eq ht (by omega) (by omega) (d := default) (by simpa using hc)⟩) _ rfl ?_; simp only [go_sem, hS0]; first | done | ((repeat' apply And.intro) <;> first | omega | (refine w64 ?_ ?_ ?_ <;> omega) | rfl | skip))
  · exact (decide_eq_true (eq_of_take hl ht (by omega))).symm
  all_goals trace_state
noncomputable def c_laws_eqRowS : List V → Option (Prop × List (Nat × V) × R) := famQ (fun (x : (List GRow) × (List GRow)) => k_laws_eqRowS x.1 x.2)
@[go_sem] theorem c_laws_eqRowS_eq (a : List GRow) (b : List GRow) : c_laws_eqRowS [(false, [.sl false [.sl false [.i .i64 0, .s []] []] (a.map (GRow.cells false false))]), (false, [.sl false [.sl false [.i .i64 0, .s []] []] (b.map (GRow.cells false false))])] = some (True, [], .one (false, [.b (decide (a = b))])) := famQ_eq _ (by rintro ⟨_, _⟩ ⟨_, _⟩ h; simp at h; simp_all) (a, b)
theorem c_laws_eqRowS_ok : ∀ vs q o r, c_laws_eqRowS vs = some (q, o, r) → q → SpecO Tryz.prog 287 vs o r := famQ_ok _
def ac_laws_eqRel : ACode := .seq (.reg false [⟨some 2, .box 2 (.t 0), none⟩, ⟨some 3, .box 2 (.t 1), none⟩, ⟨some 4, .mov (.k (.v false [.c (.b false)])), none⟩]) (.seq (.seq (.reg false
  [⟨some 5, .fa 0 (.t 2), none⟩, ⟨some 6, .ld false 1 (.t 5), none⟩, ⟨some 7, .fa 0 (.t 3), none⟩, ⟨some 8, .ld false 1 (.t 7), none⟩, ⟨some 9, .bin .neq (.t 6)
  (.t 8), none⟩]) (.cond (.t 9) (.seq (.reg false [⟨some 4, .mov (.k (.v false [.c (.b false)])), none⟩]) .ret) .skip)) (.seq (.seq (.reg false [⟨some 10, .fa 1
  (.t 2), none⟩, ⟨some 11, .ld false 1 (.t 10), none⟩, ⟨some 12, .fa 1 (.t 3), none⟩, ⟨some 13, .ld false 1 (.t 12), none⟩, ⟨some 14, .call 287 [.t 11, .t 13],
  none⟩, ⟨some 15, .not (.t 14), none⟩]) (.cond (.t 15) (.seq (.reg false [⟨some 4, .mov (.k (.v false [.c (.b false)])), none⟩]) .ret) .skip)) (.seq (.reg
  false [⟨some 4, .mov (.k (.v false [.c (.b true)])), none⟩]) .ret)))
theorem hc_laws_eqRel : Tryz.f213.body.bind (comp Tryz.prog Tryz.f213.ntmps) = some ac_laws_eqRel := by kernel_rfl
theorem k_laws_eqRel (a : GRel) (b : GRel) : SpecO Tryz.prog 213 [(true, [.i .i64 a.Arity, .sl false [.sl false [.i .i64 0, .s []] []] (a.Rows.map (GRow.cells false false))]), (true, [.i .i64 b.Arity, .sl false [.sl false [.i .i64 0, .s []] []] (b.Rows.map (GRow.cells false false))])] [] (.one (false, [.b (decide (a = b))])) := by
  refine spec_of2 false false none Tryz.func213 hc_laws_eqRel (rvs := [.t 4]) (hΓ := mkCtx_ok (deep := false) (l := [(287, [], c_laws_eqRowS)]) ⟨c_laws_eqRowS_ok, trivial⟩) (h := ?_)
  intro hb hE
  simp only [go_sem] at hb
  unfold ac_laws_eqRel
  (try refine AX_AW ?_); simp only [go_sem]; (repeat' first | apply CJ.mk | intro hc); all_goals try ((repeat' first | apply And.intro | intro hs) <;> (try simp only [go_sem, Bool.and_eq_false_iff] at hs) <;> omega)
  all_goals (cases a; cases b; simp_all)
noncomputable def c_laws_eqRel : List V → Option (Prop × List (Nat × V) × R) := famQ (fun (x : GRel × GRel) => k_laws_eqRel x.1 x.2)
@[go_sem] theorem c_laws_eqRel_eq (a_Arity : Int) (a_Rows : List GRow) (b_Arity : Int) (b_Rows : List GRow) : c_laws_eqRel [(true, [.i .i64 a_Arity, .sl false [.sl false [.i .i64 0, .s []] []] (a_Rows.map (GRow.cells false false))]), (true, [.i .i64 b_Arity, .sl false [.sl false [.i .i64 0, .s []] []] (b_Rows.map (GRow.cells false false))])] = some (True, [], .one (false, [.b (decide ((GRel.mk a_Arity a_Rows) = (GRel.mk b_Arity b_Rows)))])) := famQ_eq _ (by rintro ⟨⟨_, _⟩, ⟨_, _⟩⟩ ⟨⟨_, _⟩, ⟨_, _⟩⟩ h; simp at h; simp_all) ((GRel.mk a_Arity a_Rows), (GRel.mk b_Arity b_Rows))
theorem c_laws_eqRel_ok : ∀ vs q o r, c_laws_eqRel vs = some (q, o, r) → q → SpecO Tryz.prog 213 vs o r := famQ_ok _
def ac_laws_eqNamed : ACode := .seq (.reg false [⟨some 2, .box 3 (.t 0), none⟩, ⟨some 3, .box 3 (.t 1), none⟩, ⟨some 4, .mov (.k (.v false [.c (.b false)])), none⟩]) (.seq (.seq (.reg false
  [⟨some 5, .fa 0 (.t 2), none⟩, ⟨some 6, .ld false 1 (.t 5), none⟩, ⟨some 7, .fa 0 (.t 3), none⟩, ⟨some 8, .ld false 1 (.t 7), none⟩, ⟨some 9, .bin .neq (.t 6)
  (.t 8), none⟩]) (.cond (.t 9) (.seq (.reg false [⟨some 4, .mov (.k (.v false [.c (.b false)])), none⟩]) .ret) .skip)) (.seq (.seq (.reg false [⟨some 10, .fa 1
  (.t 2), none⟩, ⟨some 11, .ld true 2 (.t 10), none⟩, ⟨some 12, .fa 1 (.t 3), none⟩, ⟨some 13, .ld true 2 (.t 12), none⟩, ⟨some 14, .call 213 [.t 11, .t 13],
  none⟩, ⟨some 15, .not (.t 14), none⟩]) (.cond (.t 15) (.seq (.reg false [⟨some 4, .mov (.k (.v false [.c (.b false)])), none⟩]) .ret) .skip)) (.seq (.reg
  false [⟨some 4, .mov (.k (.v false [.c (.b true)])), none⟩]) .ret)))
theorem hc_laws_eqNamed : Tryz.f150.body.bind (comp Tryz.prog Tryz.f150.ntmps) = some ac_laws_eqNamed := by kernel_rfl
theorem k_laws_eqNamed (a : GNamed) (b : GNamed) : SpecO Tryz.prog 150 [(true, [.s a.Name, .i .i64 a.Rel.Arity, .sl false [.sl false [.i .i64 0, .s []] []] (a.Rel.Rows.map (GRow.cells false false))]), (true, [.s b.Name, .i .i64 b.Rel.Arity, .sl false [.sl false [.i .i64 0, .s []] []] (b.Rel.Rows.map (GRow.cells false false))])] [] (.one (false, [.b (decide (a = b))])) := by
  refine spec_of2 false false none Tryz.func150 hc_laws_eqNamed (rvs := [.t 4]) (hΓ := mkCtx_ok (deep := false) (l := [(213, [], c_laws_eqRel)]) ⟨c_laws_eqRel_ok, trivial⟩) (h := ?_)
  intro hb hE
  simp only [go_sem] at hb
  unfold ac_laws_eqNamed
  (try refine AX_AW ?_); simp only [go_sem]; (repeat' first | apply CJ.mk | intro hc); all_goals try ((repeat' first | apply And.intro | intro hs) <;> (try simp only [go_sem, Bool.and_eq_false_iff] at hs) <;> omega)
  all_goals (cases a; cases b; simp_all)
noncomputable def c_laws_eqNamed : List V → Option (Prop × List (Nat × V) × R) := famQ (fun (x : GNamed × GNamed) => k_laws_eqNamed x.1 x.2)
@[go_sem] theorem c_laws_eqNamed_eq (a_Name : List UInt8) (a_Rel_Arity : Int) (a_Rel_Rows : List GRow) (b_Name : List UInt8) (b_Rel_Arity : Int) (b_Rel_Rows : List GRow) : c_laws_eqNamed [(true, [.s a_Name, .i .i64 a_Rel_Arity, .sl false [.sl false [.i .i64 0, .s []] []] (a_Rel_Rows.map (GRow.cells false false))]), (true, [.s b_Name, .i .i64 b_Rel_Arity, .sl false [.sl false [.i .i64 0, .s []] []] (b_Rel_Rows.map (GRow.cells false false))])] = some (True, [], .one (false, [.b (decide ((GNamed.mk a_Name (GRel.mk a_Rel_Arity a_Rel_Rows)) = (GNamed.mk b_Name (GRel.mk b_Rel_Arity b_Rel_Rows))))])) := famQ_eq _ (by rintro ⟨⟨_, ⟨_, _⟩⟩, ⟨_, ⟨_, _⟩⟩⟩ ⟨⟨_, ⟨_, _⟩⟩, ⟨_, ⟨_, _⟩⟩⟩ h; simp at h; simp_all) ((GNamed.mk a_Name (GRel.mk a_Rel_Arity a_Rel_Rows)), (GNamed.mk b_Name (GRel.mk b_Rel_Arity b_Rel_Rows)))
theorem c_laws_eqNamed_ok : ∀ vs q o r, c_laws_eqNamed vs = some (q, o, r) → q → SpecO Tryz.prog 150 vs o r := famQ_ok _
def ac_laws_eqNamedS : ACode := .seq (.reg false [⟨some 4, .mov (.k (.v false [.c (.b false)])), none⟩]) (.seq (.seq (.reg false [⟨some 6, .mov (.t 0), none⟩, ⟨some 7, .len (.t 6), none⟩,
  ⟨some 8, .mov (.t 1), none⟩, ⟨some 9, .len (.t 8), none⟩, ⟨some 10, .bin .neq (.t 7) (.t 9), none⟩]) (.cond (.t 10) (.seq (.reg false [⟨some 4, .mov (.k (.v
  false [.c (.b false)])), none⟩]) .ret) .skip)) (.seq (.seq (.reg false [⟨some 5, .mov (.k (.v false [.c (.i .i64 0)])), none⟩]) (.block 0 (.loop (.seq (.seq
  (.reg false [⟨some 11, .mov (.t 5), none⟩, ⟨some 12, .mov (.t 0), none⟩, ⟨some 13, .len (.t 12), none⟩, ⟨some 14, .bin .lss (.t 11) (.t 13), none⟩]) (.cond
  (.t 14) .skip (.exit 0))) (.seq (.block 1 (.seq (.reg true [⟨some 17, .mov (.t 0), none⟩, ⟨some 18, .mov (.t 5), none⟩, ⟨some 19, .ia 3 (.t 17) (.t 18),
  none⟩, ⟨some 20, .ld true 3 (.t 19), none⟩, ⟨some 21, .mov (.t 1), none⟩, ⟨some 22, .mov (.t 5), none⟩, ⟨some 23, .ia 3 (.t 21) (.t 22), none⟩, ⟨some 24, .ld
  true 3 (.t 23), none⟩, ⟨some 25, .call 150 [.t 20, .t 24], none⟩, ⟨some 26, .not (.t 25), none⟩]) (.cond (.t 26) (.seq (.reg false [⟨some 4, .mov (.k (.v
  false [.c (.b false)])), none⟩]) .ret) .skip))) (.reg false [⟨some 15, .mov (.t 5), none⟩, ⟨some 16, .bin .add (.t 15) (.k (.v false [.c (.i .i64 1)])),
  none⟩, ⟨some 5, .mov (.t 16), none⟩])))))) (.seq (.reg false [⟨some 4, .mov (.k (.v false [.c (.b true)])), none⟩]) .ret)))
theorem hc_laws_eqNamedS : Tryz.f78.body.bind (comp Tryz.prog Tryz.f78.ntmps) = some ac_laws_eqNamedS := by kernel_rfl
theorem k_laws_eqNamedS (a : List GNamed) (b : List GNamed) : SpecO Tryz.prog 78 [(false, [.sl false [.s [], .i .i64 0, .sl false [.sl false [.i .i64 0, .s []] []] []] (a.map (GNamed.cells false false))]), (false, [.sl false [.s [], .i .i64 0, .sl false [.sl false [.i .i64 0, .s []] []] []] (b.map (GNamed.cells false false))])] [] (.one (false, [.b (decide (a = b))])) := by
  refine spec_of2 false false none Tryz.func78 hc_laws_eqNamedS (rvs := [.t 4]) (hΓ := mkCtx_ok (deep := false) (l := [(150, [], c_laws_eqNamed)]) ⟨c_laws_eqNamed_ok, trivial⟩) (h := ?_)
  intro hb hE
  simp only [go_sem] at hb
  unfold ac_laws_eqNamedS
  (try refine AX_AW ?_); simp only [go_sem]; (repeat' first | apply CJ.mk | intro hc); all_goals try ((repeat' first | apply And.intro | intro hs) <;> (try simp only [go_sem, Bool.and_eq_false_iff] at hs) <;> omega)
  · symm
    rw [decide_eq_false_iff_not]
    rintro rfl
    simp at hc
  have hl : a.length = b.length := by simpa [Int.ofNat_inj] using hc
  refine aw_loop2 false [] [0, 1] [] [] (fun i : {i : Nat // i ≤ a.length ∧ a.take i = b.take i} => [(5, slV (.i .i64 i.1))]) (fun i => []) (fun i => []) (fun i => a.length - i.1) (⟨0, by simp⟩) _ rfl ?_ ?_
  · simp only [go_sem]
    all_goals first | omega | ((repeat' apply And.intro) <;> first | omega | rfl | skip)
  intro S0 hS0 i
  simp only [go_sem] at hS0
  obtain ⟨i, hi, ht⟩ := i
  (try refine AX_AW ?_); simp only [go_sem, hS0]; (repeat' first | apply CJ.mk | intro hc); all_goals try ((repeat' first | apply And.intro | intro hs) <;> (try simp only [go_sem, Bool.and_eq_false_iff] at hs) <;> omega)
  · exact (decide_eq_false (ne_of_getD default (i := i) (by simpa using hc))).symm
  · (refine lpK_n2 (⟨i + 1, by omega, take_succ_eq ht (by omega) (by omega) (d := default) (by simpa using hc)⟩) _ rfl ?_; simp only [go_sem, hS0]; first | done | ((repeat' apply And.intro) <;> first | omega | (refine w64 ?_ ?_ ?_ <;> omega) | rfl | skip))
  · exact (decide_eq_true (eq_of_take hl ht (by omega))).symm
  all_goals trace_state
noncomputable def c_laws_eqNamedS : List V → Option (Prop × List (Nat × V) × R) := famQ (fun (x : (List GNamed) × (List GNamed)) => k_laws_eqNamedS x.1 x.2)
@[go_sem] theorem c_laws_eqNamedS_eq (a : List GNamed) (b : List GNamed) : c_laws_eqNamedS [(false, [.sl false [.s [], .i .i64 0, .sl false [.sl false [.i .i64 0, .s []] []] []] (a.map (GNamed.cells false false))]), (false, [.sl false [.s [], .i .i64 0, .sl false [.sl false [.i .i64 0, .s []] []] []] (b.map (GNamed.cells false false))])] = some (True, [], .one (false, [.b (decide (a = b))])) := famQ_eq _ (by rintro ⟨_, _⟩ ⟨_, _⟩ h; simp at h; simp_all) (a, b)
theorem c_laws_eqNamedS_ok : ∀ vs q o r, c_laws_eqNamedS vs = some (q, o, r) → q → SpecO Tryz.prog 78 vs o r := famQ_ok _
def ac_laws_eqStore : ACode := .seq (.reg false [⟨some 2, .box 1 (.t 0), none⟩, ⟨some 3, .box 1 (.t 1), none⟩, ⟨some 4, .mov (.k (.v false [.c (.b false)])), none⟩]) (.seq (.seq (.reg false
  [⟨some 5, .fa 0 (.t 2), none⟩, ⟨some 6, .ld false 1 (.t 5), none⟩, ⟨some 7, .fa 0 (.t 3), none⟩, ⟨some 8, .ld false 1 (.t 7), none⟩, ⟨some 9, .call 78 [.t 6,
  .t 8], none⟩, ⟨some 10, .not (.t 9), none⟩]) (.cond (.t 10) (.seq (.reg false [⟨some 4, .mov (.k (.v false [.c (.b false)])), none⟩]) .ret) .skip)) (.seq
  (.reg false [⟨some 4, .mov (.k (.v false [.c (.b true)])), none⟩]) .ret))
theorem hc_laws_eqStore : Tryz.f22.body.bind (comp Tryz.prog Tryz.f22.ntmps) = some ac_laws_eqStore := by kernel_rfl
theorem k_laws_eqStore (a : GStore) (b : GStore) : SpecO Tryz.prog 22 [(true, [.sl false [.s [], .i .i64 0, .sl false [.sl false [.i .i64 0, .s []] []] []] (a.Rels.map (GNamed.cells false false))]), (true, [.sl false [.s [], .i .i64 0, .sl false [.sl false [.i .i64 0, .s []] []] []] (b.Rels.map (GNamed.cells false false))])] [] (.one (false, [.b (decide (a = b))])) := by
  refine spec_of2 false false none Tryz.func22 hc_laws_eqStore (rvs := [.t 4]) (hΓ := mkCtx_ok (deep := false) (l := [(78, [], c_laws_eqNamedS)]) ⟨c_laws_eqNamedS_ok, trivial⟩) (h := ?_)
  intro hb hE
  simp only [go_sem] at hb
  unfold ac_laws_eqStore
  (try refine AX_AW ?_); simp only [go_sem]; (repeat' first | apply CJ.mk | intro hc); all_goals try ((repeat' first | apply And.intro | intro hs) <;> (try simp only [go_sem, Bool.and_eq_false_iff] at hs) <;> omega)
  all_goals (cases a; cases b; simp_all)
noncomputable def c_laws_eqStore : List V → Option (Prop × List (Nat × V) × R) := famQ (fun (x : GStore × GStore) => k_laws_eqStore x.1 x.2)
@[go_sem] theorem c_laws_eqStore_eq (a_Rels : List GNamed) (b_Rels : List GNamed) : c_laws_eqStore [(true, [.sl false [.s [], .i .i64 0, .sl false [.sl false [.i .i64 0, .s []] []] []] (a_Rels.map (GNamed.cells false false))]), (true, [.sl false [.s [], .i .i64 0, .sl false [.sl false [.i .i64 0, .s []] []] []] (b_Rels.map (GNamed.cells false false))])] = some (True, [], .one (false, [.b (decide ((GStore.mk a_Rels) = (GStore.mk b_Rels)))])) := famQ_eq _ (by rintro ⟨⟨_⟩, ⟨_⟩⟩ ⟨⟨_⟩, ⟨_⟩⟩ h; simp at h; simp_all) ((GStore.mk a_Rels), (GStore.mk b_Rels))
theorem c_laws_eqStore_ok : ∀ vs q o r, c_laws_eqStore vs = some (q, o, r) → q → SpecO Tryz.prog 22 vs o r := famQ_ok _
end Go.Aw
