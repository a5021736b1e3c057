/- Environments: sizes, copies, equalities. No condition. -/
import Derived.Test.YtojlgbkikicklaaedG1
import Derived.Test.YtojlgbkikicklaadBwt
namespace Go.Aw
open Go.Proofs
attribute [local irreducible] aft blk lpK retK AW SpecO
set_option linter.unusedVariables false
set_option linter.unusedSimpArgs false
set_option maxRecDepth 100000
def totValue (x : GValue) : Nat := x.S.length
def totBind (x : GBind) : Nat := x.Var.length + totValue x.Val
def totEnv (x : GEnv) : Nat := (x.Binds.length + tots totBind x.Binds)
def ac_laws_szValue : ACode := .seq (.reg false [⟨some 2, .box 2 (.t 0), none⟩, ⟨some 4, .mov (.k (.v false [.c (.i .i64 0)])), none⟩]) (.seq (.reg false [⟨some 5, .mov (.t 1), none⟩, ⟨some
  6, .fa 1 (.t 2), none⟩, ⟨some 7, .ld false 1 (.t 6), none⟩, ⟨some 8, .lens (.t 7), none⟩, ⟨some 9, .bin .sub (.t 5) (.t 8), none⟩, ⟨some 1, .mov (.t 9),
  none⟩]) (.seq (.seq (.reg false [⟨some 10, .mov (.t 1), none⟩, ⟨some 11, .bin .lss (.t 10) (.k (.v false [.c (.i .i64 0)])), none⟩]) (.cond (.t 11) (.seq
  (.reg false [⟨some 4, .mov (.k (.v false [.c (.i .i64 (-1))])), none⟩]) .ret) .skip)) (.seq (.reg false [⟨some 12, .mov (.t 1), none⟩, ⟨some 4, .mov (.t 12),
  none⟩]) .ret)))
theorem hc_laws_szValue : Try.f196.body.bind (comp Try.prog Try.f196.ntmps) = some ac_laws_szValue := by kernel_rfl
theorem k_laws_szValue (a : GValue) (left : Int) (hpre : 0 ≤ left ∧ left ≤ 1048576) : SpecO Try.prog 196 [(true, [.i .i64 a.N, .s a.S]), (false, [.i .i64 left])] [] (.one (false, [.i .i64 (szR left (totValue a : Nat))])) := by
  refine spec_of2 false false none Try.func196 hc_laws_szValue (rvs := [.t 4]) (hΓ := mkCtx_ok (deep := false) (l := []) trivial) (h := ?_)
  intro hb hE
  simp only [go_sem] at hb
  unfold ac_laws_szValue
  (first | refine AX_AW ?_ | skip); simp only [go_sem, reduceIte, reduceCtorEq, Nat.reduceEqDiff, Int.reduceToNat, Nat.reduceAdd, Nat.reduceLeDiff, Nat.reduceMul, Nat.reduceSub, Nat.reduceMod, Nat.reduceDiv, Nat.reduceLT, Nat.reduceBEq, List.reduceReplicate, ← and_assoc]; (repeat' first | apply CJ.mk | intro hc); all_goals try ((repeat' first | apply And.intro | intro hs) <;> (try simp only [go_sem, Bool.and_eq_false_iff] at hs) <;> omega)
  all_goals ((repeat (simp (disch := omega) only [wsub] at *)) <;> (try simp only [szR, totValue] at *) <;> (first | omega | (split <;> omega)))
noncomputable def c_laws_szValue : List V → Option (Prop × List (Nat × V) × R) := famCt (α := GValue × Int) (fun x => [(true, [.i .i64 x.1.N, .s x.1.S]), (false, [.i .i64 x.2])]) (fun x => 0 ≤ x.2 ∧ x.2 ≤ 1048576) (fun x => []) (fun x => .one (false, [.i .i64 (szR x.2 (totValue x.1 : Nat))]))
@[go_sem] theorem c_laws_szValue_eq (a_N : Int) (a_S : List UInt8) (left : Int) : c_laws_szValue [(true, [.i .i64 a_N, .s a_S]), (false, [.i .i64 left])] = some (0 ≤ left ∧ left ≤ 1048576, [], .one (false, [.i .i64 (szR left (totValue (GValue.mk a_N a_S) : Nat))])) := famCt_eq (by rintro ⟨⟨_, _⟩, _⟩ ⟨⟨_, _⟩, _⟩ h; simp only [List.cons.injEq, Prod.mk.injEq, C.i.injEq, C.s.injEq, C.b.injEq, C.sl.injEq, C.p.injEq, C.mp.injEq, C.f.injEq, true_and, and_true] at h; simp_all) ((GValue.mk a_N a_S), left)
theorem c_laws_szValue_ok : ∀ vs q o r, c_laws_szValue vs = some (q, o, r) → q → SpecO Try.prog 196 vs o r := famCt_ok (fun x h => k_laws_szValue x.1 x.2 h)
def ac_laws_szBind : ACode := .seq (.reg false [⟨some 2, .box 3 (.t 0), none⟩, ⟨some 4, .mov (.k (.v false [.c (.i .i64 0)])), none⟩]) (.seq (.reg false [⟨some 5, .mov (.t 1), none⟩, ⟨some
  6, .fa 0 (.t 2), none⟩, ⟨some 7, .ld false 1 (.t 6), none⟩, ⟨some 8, .lens (.t 7), none⟩, ⟨some 9, .bin .sub (.t 5) (.t 8), none⟩, ⟨some 1, .mov (.t 9),
  none⟩]) (.seq (.seq (.reg false [⟨some 10, .mov (.t 1), none⟩, ⟨some 11, .bin .lss (.t 10) (.k (.v false [.c (.i .i64 0)])), none⟩]) (.cond (.t 11) (.seq
  (.reg false [⟨some 4, .mov (.k (.v false [.c (.i .i64 (-1))])), none⟩]) .ret) .skip)) (.seq (.reg false [⟨some 12, .fa 1 (.t 2), none⟩, ⟨some 13, .ld true 2
  (.t 12), none⟩, ⟨some 14, .mov (.t 1), none⟩, ⟨some 15, .call 196 [.t 13, .t 14], none⟩, ⟨some 1, .mov (.t 15), none⟩]) (.seq (.seq (.reg false [⟨some 16,
  .mov (.t 1), none⟩, ⟨some 17, .bin .lss (.t 16) (.k (.v false [.c (.i .i64 0)])), none⟩]) (.cond (.t 17) (.seq (.reg false [⟨some 4, .mov (.k (.v false [.c
  (.i .i64 (-1))])), none⟩]) .ret) .skip)) (.seq (.reg false [⟨some 18, .mov (.t 1), none⟩, ⟨some 4, .mov (.t 18), none⟩]) .ret)))))
theorem hc_laws_szBind : Try.f195.body.bind (comp Try.prog Try.f195.ntmps) = some ac_laws_szBind := by kernel_rfl
theorem k_laws_szBind (a : GBind) (left : Int) (hpre : 0 ≤ left ∧ left ≤ 1048576) : SpecO Try.prog 195 [(true, [.s a.Var, .i .i64 a.Val.N, .s a.Val.S]), (false, [.i .i64 left])] [] (.one (false, [.i .i64 (szR left (totBind a : Nat))])) := by
  refine spec_of2 false false none Try.func195 hc_laws_szBind (rvs := [.t 4]) (hΓ := mkCtx_ok (deep := false) (l := [(196, [], c_laws_szValue)]) ⟨c_laws_szValue_ok, trivial⟩) (h := ?_)
  intro hb hE
  simp only [go_sem] at hb
  unfold ac_laws_szBind
  (first | refine AX_AW ?_ | skip); simp only [go_sem, reduceIte, reduceCtorEq, Nat.reduceEqDiff, Int.reduceToNat, Nat.reduceAdd, Nat.reduceLeDiff, Nat.reduceMul, Nat.reduceSub, Nat.reduceMod, Nat.reduceDiv, Nat.reduceLT, Nat.reduceBEq, List.reduceReplicate, ← and_assoc]; (repeat' first | apply CJ.mk | intro hc); all_goals try ((repeat' first | apply And.intro | intro hs) <;> (try simp only [go_sem, Bool.and_eq_false_iff] at hs) <;> omega)
  all_goals ((repeat (simp (disch := omega) only [wsub] at *)) <;> (try simp only [szR, totBind] at *) <;> (first | omega | (split <;> omega)))
noncomputable def c_laws_szBind : List V → Option (Prop × List (Nat × V) × R) := famCt (α := GBind × Int) (fun x => [(true, [.s x.1.Var, .i .i64 x.1.Val.N, .s x.1.Val.S]), (false, [.i .i64 x.2])]) (fun x => 0 ≤ x.2 ∧ x.2 ≤ 1048576) (fun x => []) (fun x => .one (false, [.i .i64 (szR x.2 (totBind x.1 : Nat))]))
@[go_sem] theorem c_laws_szBind_eq (a_Var : List UInt8) (a_Val_N : Int) (a_Val_S : List UInt8) (left : Int) : c_laws_szBind [(true, [.s a_Var, .i .i64 a_Val_N, .s a_Val_S]), (false, [.i .i64 left])] = some (0 ≤ left ∧ left ≤ 1048576, [], .one (false, [.i .i64 (szR left (totBind (GBind.mk a_Var (GValue.mk a_Val_N a_Val_S)) : Nat))])) := famCt_eq (by rintro ⟨⟨_, ⟨_, _⟩⟩, _⟩ ⟨⟨_, ⟨_, _⟩⟩, _⟩ h; simp only [List.cons.injEq, Prod.mk.injEq, C.i.injEq, C.s.injEq, C.b.injEq, C.sl.injEq, C.p.injEq, C.mp.injEq, C.f.injEq, true_and, and_true] at h; simp_all) ((GBind.mk a_Var (GValue.mk a_Val_N a_Val_S)), left)
theorem c_laws_szBind_ok : ∀ vs q o r, c_laws_szBind vs = some (q, o, r) → q → SpecO Try.prog 195 vs o r := famCt_ok (fun x h => k_laws_szBind x.1 x.2 h)
def ac_laws_szBindS : ACode := .seq (.reg false [⟨some 4, .mov (.k (.v false [.c (.i .i64 0)])), none⟩]) (.seq (.reg false [⟨some 6, .mov (.t 1), none⟩, ⟨some 7, .mov (.t 0), none⟩, ⟨some 8,
  .len (.t 7), none⟩, ⟨some 9, .bin .sub (.t 6) (.t 8), none⟩, ⟨some 1, .mov (.t 9), none⟩]) (.seq (.seq (.reg false [⟨some 10, .mov (.t 1), none⟩, ⟨some 11,
  .bin .lss (.t 10) (.k (.v false [.c (.i .i64 0)])), none⟩]) (.cond (.t 11) (.seq (.reg false [⟨some 4, .mov (.k (.v false [.c (.i .i64 (-1))])), none⟩]) .ret)
  .skip)) (.seq (.seq (.reg false [⟨some 5, .mov (.k (.v false [.c (.i .i64 0)])), none⟩]) (.block 0 (.loop (.seq (.seq (.reg false [⟨some 12, .mov (.t 5),
  none⟩, ⟨some 13, .mov (.t 0), none⟩, ⟨some 14, .len (.t 13), none⟩, ⟨some 15, .bin .lss (.t 12) (.t 14), none⟩]) (.cond (.t 15) .skip (.exit 0))) (.seq
  (.block 1 (.seq (.reg false [⟨some 18, .mov (.t 0), none⟩, ⟨some 19, .mov (.t 5), none⟩, ⟨some 20, .ia 3 (.t 18) (.t 19), none⟩, ⟨some 21, .ld true 3 (.t 20),
  none⟩, ⟨some 22, .mov (.t 1), none⟩, ⟨some 23, .call 195 [.t 21, .t 22], none⟩, ⟨some 1, .mov (.t 23), none⟩]) (.seq (.reg false [⟨some 24, .mov (.t 1),
  none⟩, ⟨some 25, .bin .lss (.t 24) (.k (.v false [.c (.i .i64 0)])), none⟩]) (.cond (.t 25) (.seq (.reg false [⟨some 4, .mov (.k (.v false [.c (.i .i64
  (-1))])), none⟩]) .ret) .skip)))) (.reg false [⟨some 16, .mov (.t 5), none⟩, ⟨some 17, .bin .add (.t 16) (.k (.v false [.c (.i .i64 1)])), none⟩, ⟨some 5,
  .mov (.t 17), none⟩])))))) (.seq (.reg false [⟨some 26, .mov (.t 1), none⟩, ⟨some 4, .mov (.t 26), none⟩]) .ret))))
theorem hc_laws_szBindS : Try.f108.body.bind (comp Try.prog Try.f108.ntmps) = some ac_laws_szBindS := by kernel_rfl
theorem k_laws_szBindS (a : List GBind) (left : Int) (hpre : 0 ≤ left ∧ left ≤ 1048576) : SpecO Try.prog 108 [(false, [.sl false [.s [], .i .i64 0, .s []] (a.map GBind.cells)]), (false, [.i .i64 left])] [] (.one (false, [.i .i64 (szR left ((a.length + tots totBind a) : Nat))])) := by
  refine spec_of2 false false none Try.func108 hc_laws_szBindS (rvs := [.t 4]) (hΓ := mkCtx_ok (deep := false) (l := [(195, [], c_laws_szBind)]) ⟨c_laws_szBind_ok, trivial⟩) (h := ?_)
  intro hb hE
  simp only [go_sem] at hb
  unfold ac_laws_szBindS
  (first | refine AX_AW ?_ | skip); simp only [go_sem, reduceIte, reduceCtorEq, Nat.reduceEqDiff, Int.reduceToNat, Nat.reduceAdd, Nat.reduceLeDiff, Nat.reduceMul, Nat.reduceSub, Nat.reduceMod, Nat.reduceDiv, Nat.reduceLT, Nat.reduceBEq, List.reduceReplicate, ← and_assoc]; (repeat' first | apply CJ.mk | intro hc); all_goals try ((repeat' first | apply And.intro | intro hs) <;> (try simp only [go_sem, Bool.and_eq_false_iff] at hs) <;> omega)
  · all_goals ((repeat (simp (disch := omega) only [wsub] at *)) <;> (try simp only [szR, szR] at *) <;> (first | omega | (split <;> omega)))
  have hw := wsub (l := left) (n := a.length) (by omega) (by omega) (by omega) (by omega)
  rw [hw] at hc
  refine aw_loop2 false [] [0] [] [] (fun i : {i : Nat // i ≤ a.length ∧ (a.length : Int) + (tots totBind (a.take i) : Nat) ≤ left} => [(5, slV (.i .i64 i.1)), (1, slV (.i .i64 (left - a.length - (tots totBind (a.take i.1) : Nat))))]) (fun i => []) (fun i => []) (fun i => a.length - i.1) (⟨0, by simp only [List.take_zero, tots_nil]; omega⟩) _ rfl ?_ ?_
  · simp only [go_sem, reduceIte, reduceCtorEq, Nat.reduceEqDiff, Int.reduceToNat, Nat.reduceAdd, Nat.reduceLeDiff, Nat.reduceMul, Nat.reduceSub, Nat.reduceMod, Nat.reduceDiv, Nat.reduceLT, Nat.reduceBEq, List.reduceReplicate, ← and_assoc, hw]
    all_goals first | omega | ((repeat' apply And.intro) <;> first | omega | rfl | skip)
  intro S0 hS0 i
  simp only [go_sem, reduceIte, reduceCtorEq, Nat.reduceEqDiff, Int.reduceToNat, Nat.reduceAdd, Nat.reduceLeDiff, Nat.reduceMul, Nat.reduceSub, Nat.reduceMod, Nat.reduceDiv, Nat.reduceLT, Nat.reduceBEq, List.reduceReplicate, ← and_assoc, hw] at hS0
  obtain ⟨i, hi, ht⟩ := i
  (first | refine AX_AW ?_ | skip); simp only [go_sem, reduceIte, reduceCtorEq, Nat.reduceEqDiff, Int.reduceToNat, Nat.reduceAdd, Nat.reduceLeDiff, Nat.reduceMul, Nat.reduceSub, Nat.reduceMod, Nat.reduceDiv, Nat.reduceLT, Nat.reduceBEq, List.reduceReplicate, ← and_assoc, hw, hS0]; (repeat' first | apply CJ.mk | intro hc); all_goals try ((repeat' first | apply And.intro | intro hs) <;> (try simp only [go_sem, Bool.and_eq_false_iff] at hs) <;> omega)
  · have h1 := tots_take_succ totBind (default : GBind) (show i < a.length by omega)
    have h2 := tots_take_le totBind a (i + 1)
    all_goals ((repeat (simp (disch := omega) only [wsub] at *)) <;> (try simp only [szR, szR] at *) <;> (first | omega | (split <;> omega)))
  · have h1 := tots_take_succ totBind (default : GBind) (show i < a.length by omega)
    (refine lpK_n2 (⟨i + 1, by omega, by unfold szR at hc; split at hc <;> omega⟩) _ rfl ?_; simp only [go_sem, reduceIte, reduceCtorEq, Nat.reduceEqDiff, Int.reduceToNat, Nat.reduceAdd, Nat.reduceLeDiff, Nat.reduceMul, Nat.reduceSub, Nat.reduceMod, Nat.reduceDiv, Nat.reduceLT, Nat.reduceBEq, List.reduceReplicate, ← and_assoc, hw, hS0]; first | done | ((repeat' apply And.intro) <;> first | omega | (refine w64 ?_ ?_ ?_ <;> omega) | rfl | skip))
    rw [h1]
    unfold szR at hc ⊢
    split at hc <;> omega
  · have h1 := tots_all totBind (show ¬ i < a.length by omega)
    all_goals ((repeat (simp (disch := omega) only [wsub] at *)) <;> (try simp only [szR, szR] at *) <;> (first | omega | (split <;> omega)))
  all_goals all_goals ((repeat (simp (disch := omega) only [wsub] at *)) <;> (try simp only [szR, szR] at *) <;> (first | omega | (split <;> omega)))
noncomputable def c_laws_szBindS : List V → Option (Prop × List (Nat × V) × R) := famCt (α := (List GBind) × Int) (fun x => [(false, [.sl false [.s [], .i .i64 0, .s []] (x.1.map GBind.cells)]), (false, [.i .i64 x.2])]) (fun x => 0 ≤ x.2 ∧ x.2 ≤ 1048576) (fun x => []) (fun x => .one (false, [.i .i64 (szR x.2 ((x.1.length + tots totBind x.1) : Nat))]))
@[go_sem] theorem c_laws_szBindS_eq (a : List GBind) (left : Int) : c_laws_szBindS [(false, [.sl false [.s [], .i .i64 0, .s []] (a.map GBind.cells)]), (false, [.i .i64 left])] = some (0 ≤ left ∧ left ≤ 1048576, [], .one (false, [.i .i64 (szR left ((a.length + tots totBind a) : Nat))])) := famCt_eq (by rintro ⟨_, _⟩ ⟨_, _⟩ h; simp only [List.cons.injEq, Prod.mk.injEq, C.i.injEq, C.s.injEq, C.b.injEq, C.sl.injEq, C.p.injEq, C.mp.injEq, C.f.injEq, true_and, and_true, GBind_map_inj] at h; simp_all) (a, left)
theorem c_laws_szBindS_ok : ∀ vs q o r, c_laws_szBindS vs = some (q, o, r) → q → SpecO Try.prog 108 vs o r := famCt_ok (fun x h => k_laws_szBindS x.1 x.2 h)
def ac_laws_szEnv : ACode := .seq (.reg false [⟨some 2, .box 1 (.t 0), none⟩, ⟨some 4, .mov (.k (.v false [.c (.i .i64 0)])), none⟩]) (.seq (.reg false [⟨some 5, .fa 0 (.t 2), none⟩, ⟨some
  6, .ld false 1 (.t 5), none⟩, ⟨some 7, .mov (.t 1), none⟩, ⟨some 8, .call 108 [.t 6, .t 7], none⟩, ⟨some 1, .mov (.t 8), none⟩]) (.seq (.seq (.reg false
  [⟨some 9, .mov (.t 1), none⟩, ⟨some 10, .bin .lss (.t 9) (.k (.v false [.c (.i .i64 0)])), none⟩]) (.cond (.t 10) (.seq (.reg false [⟨some 4, .mov (.k (.v
  false [.c (.i .i64 (-1))])), none⟩]) .ret) .skip)) (.seq (.reg false [⟨some 11, .mov (.t 1), none⟩, ⟨some 4, .mov (.t 11), none⟩]) .ret)))
theorem hc_laws_szEnv : Try.f33.body.bind (comp Try.prog Try.f33.ntmps) = some ac_laws_szEnv := by kernel_rfl
theorem k_laws_szEnv (a : GEnv) (left : Int) (hpre : 0 ≤ left ∧ left ≤ 1048576) : SpecO Try.prog 33 [(true, [.sl false [.s [], .i .i64 0, .s []] (a.Binds.map GBind.cells)]), (false, [.i .i64 left])] [] (.one (false, [.i .i64 (szR left (totEnv a : Nat))])) := by
  refine spec_of2 false false none Try.func33 hc_laws_szEnv (rvs := [.t 4]) (hΓ := mkCtx_ok (deep := false) (l := [(108, [], c_laws_szBindS)]) ⟨c_laws_szBindS_ok, trivial⟩) (h := ?_)
  intro hb hE
  simp only [go_sem] at hb
  unfold ac_laws_szEnv
  (first | refine AX_AW ?_ | skip); simp only [go_sem, reduceIte, reduceCtorEq, Nat.reduceEqDiff, Int.reduceToNat, Nat.reduceAdd, Nat.reduceLeDiff, Nat.reduceMul, Nat.reduceSub, Nat.reduceMod, Nat.reduceDiv, Nat.reduceLT, Nat.reduceBEq, List.reduceReplicate, ← and_assoc]; (repeat' first | apply CJ.mk | intro hc); all_goals try ((repeat' first | apply And.intro | intro hs) <;> (try simp only [go_sem, Bool.and_eq_false_iff] at hs) <;> omega)
  all_goals ((repeat (simp (disch := omega) only [wsub] at *)) <;> (try simp only [szR, totEnv] at *) <;> (first | omega | (split <;> omega)))
noncomputable def c_laws_szEnv : List V → Option (Prop × List (Nat × V) × R) := famCt (α := GEnv × Int) (fun x => [(true, [.sl false [.s [], .i .i64 0, .s []] (x.1.Binds.map GBind.cells)]), (false, [.i .i64 x.2])]) (fun x => 0 ≤ x.2 ∧ x.2 ≤ 1048576) (fun x => []) (fun x => .one (false, [.i .i64 (szR x.2 (totEnv x.1 : Nat))]))
@[go_sem] theorem c_laws_szEnv_eq (a_Binds : List GBind) (left : Int) : c_laws_szEnv [(true, [.sl false [.s [], .i .i64 0, .s []] (a_Binds.map GBind.cells)]), (false, [.i .i64 left])] = some (0 ≤ left ∧ left ≤ 1048576, [], .one (false, [.i .i64 (szR left (totEnv (GEnv.mk a_Binds) : Nat))])) := famCt_eq (by rintro ⟨⟨_⟩, _⟩ ⟨⟨_⟩, _⟩ h; simp only [List.cons.injEq, Prod.mk.injEq, C.i.injEq, C.s.injEq, C.b.injEq, C.sl.injEq, C.p.injEq, C.mp.injEq, C.f.injEq, true_and, and_true, GBind_map_inj] at h; simp_all) ((GEnv.mk a_Binds), left)
theorem c_laws_szEnv_ok : ∀ vs q o r, c_laws_szEnv vs = some (q, o, r) → q → SpecO Try.prog 33 vs o r := famCt_ok (fun x h => k_laws_szEnv x.1 x.2 h)
def ac_laws_toValue : ACode := .seq (.reg false [⟨some 1, .box 2 (.t 0), none⟩, ⟨some 2, .alloc [.i .i64, .s], none⟩]) (.seq (.reg false [⟨some 3, .alloc [.i .i64, .s], none⟩]) (.seq (.reg
  false [⟨some 4, .fa 0 (.t 1), none⟩, ⟨some 5, .ld false 1 (.t 4), none⟩, ⟨some 6, .fa 0 (.t 3), none⟩, ⟨none, .st 1 (.t 6) (.t 5), none⟩]) (.seq (.reg false
  [⟨some 7, .fa 1 (.t 1), none⟩, ⟨some 8, .ld false 1 (.t 7), none⟩, ⟨some 9, .fa 1 (.t 3), none⟩, ⟨none, .st 1 (.t 9) (.t 8), none⟩]) (.seq (.reg false [⟨some
  10, .ld true 2 (.t 3), none⟩, ⟨none, .st 2 (.t 2) (.t 10), none⟩]) .ret))))
theorem hc_laws_toValue : Try.f198.body.bind (comp Try.prog Try.f198.ntmps) = some ac_laws_toValue := by kernel_rfl
theorem k_laws_toValue (a : GValue) : SpecO Try.prog 198 [(true, [.i .i64 a.N, .s a.S])] [] (.one (true, [.i .i64 a.N, .s a.S])) := by
  refine spec_of2 true false none Try.func198 hc_laws_toValue (rvs := [.c 2 true 2]) (hΓ := mkCtx_ok (deep := true) (l := []) trivial) (h := ?_)
  intro hb hE
  simp only [go_sem] at hb
  unfold ac_laws_toValue
  (first | refine AX_AW ?_ | skip); simp only [go_sem, reduceIte, reduceCtorEq, Nat.reduceEqDiff, Int.reduceToNat, Nat.reduceAdd, Nat.reduceLeDiff, Nat.reduceMul, Nat.reduceSub, Nat.reduceMod, Nat.reduceDiv, Nat.reduceLT, Nat.reduceBEq, List.reduceReplicate, ← and_assoc]; (repeat' first | apply CJ.mk | intro hc); all_goals try ((repeat' first | apply And.intro | intro hs) <;> (try simp only [go_sem, Bool.and_eq_false_iff] at hs) <;> omega)
noncomputable def c_laws_toValue : List V → Option (Prop × List (Nat × V) × R) := famCt (α := GValue) (fun x => [(true, [.i .i64 x.N, .s x.S])]) (fun x => True) (fun x => []) (fun x => .one (true, [.i .i64 x.N, .s x.S]))
@[go_sem] theorem c_laws_toValue_eq (a_N : Int) (a_S : List UInt8) : c_laws_toValue [(true, [.i .i64 a_N, .s a_S])] = some (True, [], .one (true, [.i .i64 ((GValue.mk a_N a_S).N), .s ((GValue.mk a_N a_S).S)])) := famCt_eq (by rintro ⟨_, _⟩ ⟨_, _⟩ h; simp only [List.cons.injEq, Prod.mk.injEq, C.i.injEq, C.s.injEq, C.b.injEq, C.sl.injEq, C.p.injEq, C.mp.injEq, C.f.injEq, true_and, and_true] at h; simp_all) (GValue.mk a_N a_S)
theorem c_laws_toValue_ok : ∀ vs q o r, c_laws_toValue vs = some (q, o, r) → q → SpecO Try.prog 198 vs o r := famCt_ok (fun x h => k_laws_toValue x)
def ac_laws_toBind : ACode := .seq (.reg false [⟨some 1, .box 3 (.t 0), none⟩, ⟨some 2, .alloc [.s, .i .i64, .s], none⟩]) (.seq (.reg false [⟨some 3, .alloc [.s, .i .i64, .s], none⟩]) (.seq
  (.reg false [⟨some 4, .fa 0 (.t 1), none⟩, ⟨some 5, .ld false 1 (.t 4), none⟩, ⟨some 6, .fa 0 (.t 3), none⟩, ⟨none, .st 1 (.t 6) (.t 5), none⟩]) (.seq (.reg
  false [⟨some 7, .fa 1 (.t 1), none⟩, ⟨some 8, .ld true 2 (.t 7), none⟩, ⟨some 9, .call 198 [.t 8], none⟩, ⟨some 10, .fa 1 (.t 3), none⟩, ⟨none, .st 2 (.t 10)
  (.t 9), none⟩]) (.seq (.reg false [⟨some 11, .ld true 3 (.t 3), none⟩, ⟨none, .st 3 (.t 2) (.t 11), none⟩]) .ret))))
theorem hc_laws_toBind : Try.f197.body.bind (comp Try.prog Try.f197.ntmps) = some ac_laws_toBind := by kernel_rfl
theorem k_laws_toBind (a : GBind) : SpecO Try.prog 197 [(true, [.s a.Var, .i .i64 a.Val.N, .s a.Val.S])] [] (.one (true, [.s a.Var, .i .i64 a.Val.N, .s a.Val.S])) := by
  refine spec_of2 true false none Try.func197 hc_laws_toBind (rvs := [.c 2 true 3]) (hΓ := mkCtx_ok (deep := true) (l := [(198, [], c_laws_toValue)]) ⟨c_laws_toValue_ok, trivial⟩) (h := ?_)
  intro hb hE
  simp only [go_sem] at hb
  unfold ac_laws_toBind
  (first | refine AX_AW ?_ | skip); simp only [go_sem, reduceIte, reduceCtorEq, Nat.reduceEqDiff, Int.reduceToNat, Nat.reduceAdd, Nat.reduceLeDiff, Nat.reduceMul, Nat.reduceSub, Nat.reduceMod, Nat.reduceDiv, Nat.reduceLT, Nat.reduceBEq, List.reduceReplicate, ← and_assoc]; (repeat' first | apply CJ.mk | intro hc); all_goals try ((repeat' first | apply And.intro | intro hs) <;> (try simp only [go_sem, Bool.and_eq_false_iff] at hs) <;> omega)
noncomputable def c_laws_toBind : List V → Option (Prop × List (Nat × V) × R) := famCt (α := GBind) (fun x => [(true, [.s x.Var, .i .i64 x.Val.N, .s x.Val.S])]) (fun x => True) (fun x => []) (fun x => .one (true, [.s x.Var, .i .i64 x.Val.N, .s x.Val.S]))
@[go_sem] theorem c_laws_toBind_eq (a_Var : List UInt8) (a_Val_N : Int) (a_Val_S : List UInt8) : c_laws_toBind [(true, [.s a_Var, .i .i64 a_Val_N, .s a_Val_S])] = some (True, [], .one (true, [.s ((GBind.mk a_Var (GValue.mk a_Val_N a_Val_S)).Var), .i .i64 (((GBind.mk a_Var (GValue.mk a_Val_N a_Val_S)).Val).N), .s (((GBind.mk a_Var (GValue.mk a_Val_N a_Val_S)).Val).S)])) := famCt_eq (by rintro ⟨_, ⟨_, _⟩⟩ ⟨_, ⟨_, _⟩⟩ h; simp only [List.cons.injEq, Prod.mk.injEq, C.i.injEq, C.s.injEq, C.b.injEq, C.sl.injEq, C.p.injEq, C.mp.injEq, C.f.injEq, true_and, and_true] at h; simp_all) (GBind.mk a_Var (GValue.mk a_Val_N a_Val_S))
theorem c_laws_toBind_ok : ∀ vs q o r, c_laws_toBind vs = some (q, o, r) → q → SpecO Try.prog 197 vs o r := famCt_ok (fun x h => k_laws_toBind x)
def ac_laws_toBindS : ACode := .seq (.reg false [⟨some 2, .mov (.k (.v false [.nl [.s [], .i .i64 0, .s []]])), none⟩]) (.seq (.reg false [⟨some 5, .mov (.t 0), none⟩, ⟨some 6, .len (.t 5),
  none⟩, ⟨some 7, .mks 3 40 [.s, .i .i64, .s] (.t 6) (.t 6), none⟩, ⟨some 3, .mov (.t 7), none⟩]) (.seq (.seq (.reg false [⟨some 4, .mov (.k (.v false [.c (.i
  .i64 0)])), none⟩]) (.block 0 (.loop (.seq (.seq (.reg false [⟨some 8, .mov (.t 4), none⟩, ⟨some 9, .mov (.t 0), none⟩, ⟨some 10, .len (.t 9), none⟩, ⟨some
  11, .bin .lss (.t 8) (.t 10), none⟩]) (.cond (.t 11) .skip (.exit 0))) (.seq (.block 1 (.reg false [⟨some 14, .mov (.t 3), none⟩, ⟨some 15, .mov (.t 4),
  none⟩, ⟨some 16, .mov (.t 0), none⟩, ⟨some 17, .mov (.t 4), none⟩, ⟨some 18, .ia 3 (.t 16) (.t 17), none⟩, ⟨some 19, .ld true 3 (.t 18), none⟩, ⟨some 20,
  .call 197 [.t 19], none⟩, ⟨some 21, .ia 3 (.t 14) (.t 15), none⟩, ⟨none, .st 3 (.t 21) (.t 20), none⟩])) (.reg false [⟨some 12, .mov (.t 4), none⟩, ⟨some 13,
  .bin .add (.t 12) (.k (.v false [.c (.i .i64 1)])), none⟩, ⟨some 4, .mov (.t 13), none⟩])))))) (.seq (.reg false [⟨some 22, .mov (.t 3), none⟩, ⟨some 2, .mov
  (.t 22), none⟩]) .ret)))
theorem hc_laws_toBindS : Try.f111.body.bind (comp Try.prog Try.f111.ntmps) = some ac_laws_toBindS := by kernel_rfl
theorem k_laws_toBindS (a : List GBind) (hpre : (((a.length + tots totBind a) : Nat) : Int) ≤ 1048576) : SpecO Try.prog 111 [(false, [.sl false [.s [], .i .i64 0, .s []] (a.map GBind.cells)])] [] (.one (false, [.sl true [.s [], .i .i64 0, .s []] (a.map GBind.cells)])) := by
  refine spec_of2 true false none Try.func111 hc_laws_toBindS (rvs := [.t 2]) (hΓ := mkCtx_ok (deep := true) (l := [(197, [], c_laws_toBind)]) ⟨c_laws_toBind_ok, trivial⟩) (h := ?_)
  intro hb hE
  simp only [go_sem] at hb
  unfold ac_laws_toBindS
  (first | refine AX_AW ?_ | skip); simp only [go_sem, reduceIte, reduceCtorEq, Nat.reduceEqDiff, Int.reduceToNat, Nat.reduceAdd, Nat.reduceLeDiff, Nat.reduceMul, Nat.reduceSub, Nat.reduceMod, Nat.reduceDiv, Nat.reduceLT, Nat.reduceBEq, List.reduceReplicate, ← and_assoc, GBind_rep]; (repeat' first | apply CJ.mk | intro hc); all_goals try ((repeat' first | apply And.intro | intro hs) <;> (try simp only [go_sem, Bool.and_eq_false_iff] at hs) <;> omega)
  refine aw_loop2 true [] [0, 3] [] [] (fun i : {p : Nat × (List GBind) // p.1 ≤ a.length ∧ p.2.length = a.length ∧ p.2.take p.1 = a.take p.1} => [(4, slV (.i .i64 i.1.1))]) (fun i => []) (fun i => [(896, [.s [], .i .i64 0, .s []], i.1.2.map GBind.cells)]) (fun i => a.length - i.1.1) (⟨(0, List.replicate a.length default), by simp⟩) _ rfl ?_ ?_
  · simp only [go_sem, reduceIte, reduceCtorEq, Nat.reduceEqDiff, Int.reduceToNat, Nat.reduceAdd, Nat.reduceLeDiff, Nat.reduceMul, Nat.reduceSub, Nat.reduceMod, Nat.reduceDiv, Nat.reduceLT, Nat.reduceBEq, List.reduceReplicate, ← and_assoc, GBind_rep]
    all_goals first | omega | ((repeat' apply And.intro) <;> first | omega | rfl | skip)
  intro S0 hS0 i
  simp only [go_sem, reduceIte, reduceCtorEq, Nat.reduceEqDiff, Int.reduceToNat, Nat.reduceAdd, Nat.reduceLeDiff, Nat.reduceMul, Nat.reduceSub, Nat.reduceMod, Nat.reduceDiv, Nat.reduceLT, Nat.reduceBEq, List.reduceReplicate, ← and_assoc, GBind_rep] at hS0
  obtain ⟨⟨i, L⟩, hi, hl, ht⟩ := i
  simp only at hi hl ht
  (first | refine AX_AW ?_ | skip); simp only [go_sem, reduceIte, reduceCtorEq, Nat.reduceEqDiff, Int.reduceToNat, Nat.reduceAdd, Nat.reduceLeDiff, Nat.reduceMul, Nat.reduceSub, Nat.reduceMod, Nat.reduceDiv, Nat.reduceLT, Nat.reduceBEq, List.reduceReplicate, ← and_assoc, GBind_rep, hS0]; (repeat' first | apply CJ.mk | intro hc); all_goals try ((repeat' first | apply And.intro | intro hs) <;> (try simp only [go_sem, Bool.and_eq_false_iff] at hs) <;> omega)
  · (refine lpK_n2 (⟨(i + 1, L.set i (a.getD i default)), by simp only; omega, by simp [hl], take_set_succ hl ht (by omega)⟩) _ rfl ?_; simp only [go_sem, reduceIte, reduceCtorEq, Nat.reduceEqDiff, Int.reduceToNat, Nat.reduceAdd, Nat.reduceLeDiff, Nat.reduceMul, Nat.reduceSub, Nat.reduceMod, Nat.reduceDiv, Nat.reduceLT, Nat.reduceBEq, List.reduceReplicate, ← and_assoc, GBind_rep, hS0]; first | done | ((repeat' apply And.intro) <;> first | omega | (refine w64 ?_ ?_ ?_ <;> omega) | rfl | skip))
  · obtain rfl := eq_of_take hl ht (by omega)
    rfl
  all_goals trace_state
noncomputable def c_laws_toBindS : List V → Option (Prop × List (Nat × V) × R) := famCt (α := (List GBind)) (fun x => [(false, [.sl false [.s [], .i .i64 0, .s []] (x.map GBind.cells)])]) (fun x => (((x.length + tots totBind x) : Nat) : Int) ≤ 1048576) (fun x => []) (fun x => .one (false, [.sl true [.s [], .i .i64 0, .s []] (x.map GBind.cells)]))
@[go_sem] theorem c_laws_toBindS_eq (a : List GBind) : c_laws_toBindS [(false, [.sl false [.s [], .i .i64 0, .s []] (a.map GBind.cells)])] = some ((((a.length + tots totBind a) : Nat) : Int) ≤ 1048576, [], .one (false, [.sl true [.s [], .i .i64 0, .s []] (a.map GBind.cells)])) := famCt_eq (by intro x y h; simp only [List.cons.injEq, Prod.mk.injEq, C.i.injEq, C.s.injEq, C.b.injEq, C.sl.injEq, C.p.injEq, C.mp.injEq, C.f.injEq, true_and, and_true, GBind_map_inj] at h; simp_all) a
theorem c_laws_toBindS_ok : ∀ vs q o r, c_laws_toBindS vs = some (q, o, r) → q → SpecO Try.prog 111 vs o r := famCt_ok (fun x h => k_laws_toBindS x h)
def ac_laws_toEnv : ACode := .seq (.reg false [⟨some 1, .box 1 (.t 0), none⟩, ⟨some 2, .alloc [.sl [.s [], .i .i64 0, .s []]], none⟩]) (.seq (.reg false [⟨some 3, .alloc [.sl [.s [], .i
  .i64 0, .s []]], none⟩]) (.seq (.reg false [⟨some 4, .fa 0 (.t 1), none⟩, ⟨some 5, .ld false 1 (.t 4), none⟩, ⟨some 6, .call 111 [.t 5], none⟩, ⟨some 7, .fa 0
  (.t 3), none⟩, ⟨none, .st 1 (.t 7) (.t 6), none⟩]) (.seq (.reg false [⟨some 8, .ld true 1 (.t 3), none⟩, ⟨none, .st 1 (.t 2) (.t 8), none⟩]) .ret)))
theorem hc_laws_toEnv : Try.f36.body.bind (comp Try.prog Try.f36.ntmps) = some ac_laws_toEnv := by kernel_rfl
theorem k_laws_toEnv (a : GEnv) (hpre : (totEnv a : Int) ≤ 1048576) : SpecO Try.prog 36 [(true, [.sl false [.s [], .i .i64 0, .s []] (a.Binds.map GBind.cells)])] [] (.one (true, [.sl true [.s [], .i .i64 0, .s []] (a.Binds.map GBind.cells)])) := by
  refine spec_of2 true false none Try.func36 hc_laws_toEnv (rvs := [.c 2 true 1]) (hΓ := mkCtx_ok (deep := true) (l := [(111, [], c_laws_toBindS)]) ⟨c_laws_toBindS_ok, trivial⟩) (h := ?_)
  intro hb hE
  simp only [go_sem] at hb
  unfold ac_laws_toEnv
  (first | refine AX_AW ?_ | skip); simp only [go_sem, reduceIte, reduceCtorEq, Nat.reduceEqDiff, Int.reduceToNat, Nat.reduceAdd, Nat.reduceLeDiff, Nat.reduceMul, Nat.reduceSub, Nat.reduceMod, Nat.reduceDiv, Nat.reduceLT, Nat.reduceBEq, List.reduceReplicate, ← and_assoc]; (repeat' first | apply CJ.mk | intro hc); all_goals try ((repeat' first | apply And.intro | intro hs) <;> (try simp only [go_sem, Bool.and_eq_false_iff] at hs) <;> omega)
  all_goals (simp only [totEnv] at *; omega)
noncomputable def c_laws_toEnv : List V → Option (Prop × List (Nat × V) × R) := famCt (α := GEnv) (fun x => [(true, [.sl false [.s [], .i .i64 0, .s []] (x.Binds.map GBind.cells)])]) (fun x => (totEnv x : Int) ≤ 1048576) (fun x => []) (fun x => .one (true, [.sl true [.s [], .i .i64 0, .s []] (x.Binds.map GBind.cells)]))
@[go_sem] theorem c_laws_toEnv_eq (a_Binds : List GBind) : c_laws_toEnv [(true, [.sl false [.s [], .i .i64 0, .s []] (a_Binds.map GBind.cells)])] = some ((totEnv (GEnv.mk a_Binds) : Int) ≤ 1048576, [], .one (true, [.sl true [.s [], .i .i64 0, .s []] (((GEnv.mk a_Binds).Binds).map GBind.cells)])) := famCt_eq (by rintro ⟨_⟩ ⟨_⟩ h; simp only [List.cons.injEq, Prod.mk.injEq, C.i.injEq, C.s.injEq, C.b.injEq, C.sl.injEq, C.p.injEq, C.mp.injEq, C.f.injEq, true_and, and_true, GBind_map_inj] at h; simp_all) (GEnv.mk a_Binds)
theorem c_laws_toEnv_ok : ∀ vs q o r, c_laws_toEnv vs = some (q, o, r) → q → SpecO Try.prog 36 vs o r := famCt_ok (fun x h => k_laws_toEnv x h)
def ac_laws_eqValue : ACode := .seq (.reg false [⟨some 2, .box 2 (.t 0), none⟩, ⟨some 3, .box 2 (.t 1), none⟩, ⟨some 4, .mov (.k (.v false [.c (.b false)])), none⟩]) (.seq (.seq (.reg false
  [⟨some 5, .fa 0 (.t 2), none⟩, ⟨some 6, .ld false 1 (.t 5), none⟩, ⟨some 7, .fa 0 (.t 3), none⟩, ⟨some 8, .ld false 1 (.t 7), none⟩, ⟨some 9, .bin .neq (.t 6)
  (.t 8), none⟩]) (.cond (.t 9) (.seq (.reg false [⟨some 4, .mov (.k (.v false [.c (.b false)])), none⟩]) .ret) .skip)) (.seq (.seq (.reg false [⟨some 10, .fa 1
  (.t 2), none⟩, ⟨some 11, .ld false 1 (.t 10), none⟩, ⟨some 12, .fa 1 (.t 3), none⟩, ⟨some 13, .ld false 1 (.t 12), none⟩, ⟨some 14, .bin .neq (.t 11) (.t 13),
  none⟩]) (.cond (.t 14) (.seq (.reg false [⟨some 4, .mov (.k (.v false [.c (.b false)])), none⟩]) .ret) .skip)) (.seq (.reg false [⟨some 4, .mov (.k (.v false
  [.c (.b true)])), none⟩]) .ret)))
theorem hc_laws_eqValue : Try.f200.body.bind (comp Try.prog Try.f200.ntmps) = some ac_laws_eqValue := by kernel_rfl
theorem k_laws_eqValue (a : GValue) (b : GValue) : SpecO Try.prog 200 [(true, [.i .i64 a.N, .s a.S]), (true, [.i .i64 b.N, .s b.S])] [] (.one (false, [.b (decide (a = b))])) := by
  refine spec_of2 false false none Try.func200 hc_laws_eqValue (rvs := [.t 4]) (hΓ := mkCtx_ok (deep := false) (l := []) trivial) (h := ?_)
  intro hb hE
  simp only [go_sem] at hb
  unfold ac_laws_eqValue
  (first | refine AX_AW ?_ | skip); simp only [go_sem, reduceIte, reduceCtorEq, Nat.reduceEqDiff, Int.reduceToNat, Nat.reduceAdd, Nat.reduceLeDiff, Nat.reduceMul, Nat.reduceSub, Nat.reduceMod, Nat.reduceDiv, Nat.reduceLT, Nat.reduceBEq, List.reduceReplicate, ← and_assoc]; (repeat' first | apply CJ.mk | intro hc); all_goals try ((repeat' first | apply And.intro | intro hs) <;> (try simp only [go_sem, Bool.and_eq_false_iff] at hs) <;> omega)
  all_goals (cases a; cases b; simp_all)
noncomputable def c_laws_eqValue : List V → Option (Prop × List (Nat × V) × R) := famCt (α := GValue × GValue) (fun x => [(true, [.i .i64 x.1.N, .s x.1.S]), (true, [.i .i64 x.2.N, .s x.2.S])]) (fun x => True) (fun x => []) (fun x => .one (false, [.b (decide (x.1 = x.2))]))
@[go_sem] theorem c_laws_eqValue_eq (a_N : Int) (a_S : List UInt8) (b_N : Int) (b_S : List UInt8) : c_laws_eqValue [(true, [.i .i64 a_N, .s a_S]), (true, [.i .i64 b_N, .s b_S])] = some (True, [], .one (false, [.b (decide ((GValue.mk a_N a_S) = (GValue.mk b_N b_S)))])) := famCt_eq (by rintro ⟨⟨_, _⟩, ⟨_, _⟩⟩ ⟨⟨_, _⟩, ⟨_, _⟩⟩ h; simp only [List.cons.injEq, Prod.mk.injEq, C.i.injEq, C.s.injEq, C.b.injEq, C.sl.injEq, C.p.injEq, C.mp.injEq, C.f.injEq, true_and, and_true] at h; simp_all) ((GValue.mk a_N a_S), (GValue.mk b_N b_S))
theorem c_laws_eqValue_ok : ∀ vs q o r, c_laws_eqValue vs = some (q, o, r) → q → SpecO Try.prog 200 vs o r := famCt_ok (fun x h => k_laws_eqValue x.1 x.2)
def ac_laws_eqBind : ACode := .seq (.reg false [⟨some 2, .box 3 (.t 0), none⟩, ⟨some 3, .box 3 (.t 1), none⟩, ⟨some 4, .mov (.k (.v false [.c (.b false)])), none⟩]) (.seq (.seq (.reg false
  [⟨some 5, .fa 0 (.t 2), none⟩, ⟨some 6, .ld false 1 (.t 5), none⟩, ⟨some 7, .fa 0 (.t 3), none⟩, ⟨some 8, .ld false 1 (.t 7), none⟩, ⟨some 9, .bin .neq (.t 6)
  (.t 8), none⟩]) (.cond (.t 9) (.seq (.reg false [⟨some 4, .mov (.k (.v false [.c (.b false)])), none⟩]) .ret) .skip)) (.seq (.seq (.reg false [⟨some 10, .fa 1
  (.t 2), none⟩, ⟨some 11, .ld true 2 (.t 10), none⟩, ⟨some 12, .fa 1 (.t 3), none⟩, ⟨some 13, .ld true 2 (.t 12), none⟩, ⟨some 14, .call 200 [.t 11, .t 13],
  none⟩, ⟨some 15, .not (.t 14), none⟩]) (.cond (.t 15) (.seq (.reg false [⟨some 4, .mov (.k (.v false [.c (.b false)])), none⟩]) .ret) .skip)) (.seq (.reg
  false [⟨some 4, .mov (.k (.v false [.c (.b true)])), none⟩]) .ret)))
theorem hc_laws_eqBind : Try.f199.body.bind (comp Try.prog Try.f199.ntmps) = some ac_laws_eqBind := by kernel_rfl
theorem k_laws_eqBind (a : GBind) (b : GBind) : SpecO Try.prog 199 [(true, [.s a.Var, .i .i64 a.Val.N, .s a.Val.S]), (true, [.s b.Var, .i .i64 b.Val.N, .s b.Val.S])] [] (.one (false, [.b (decide (a = b))])) := by
  refine spec_of2 false false none Try.func199 hc_laws_eqBind (rvs := [.t 4]) (hΓ := mkCtx_ok (deep := false) (l := [(200, [], c_laws_eqValue)]) ⟨c_laws_eqValue_ok, trivial⟩) (h := ?_)
  intro hb hE
  simp only [go_sem] at hb
  unfold ac_laws_eqBind
  (first | refine AX_AW ?_ | skip); simp only [go_sem, reduceIte, reduceCtorEq, Nat.reduceEqDiff, Int.reduceToNat, Nat.reduceAdd, Nat.reduceLeDiff, Nat.reduceMul, Nat.reduceSub, Nat.reduceMod, Nat.reduceDiv, Nat.reduceLT, Nat.reduceBEq, List.reduceReplicate, ← and_assoc]; (repeat' first | apply CJ.mk | intro hc); all_goals try ((repeat' first | apply And.intro | intro hs) <;> (try simp only [go_sem, Bool.and_eq_false_iff] at hs) <;> omega)
  all_goals (cases a; cases b; simp_all)
noncomputable def c_laws_eqBind : List V → Option (Prop × List (Nat × V) × R) := famCt (α := GBind × GBind) (fun x => [(true, [.s x.1.Var, .i .i64 x.1.Val.N, .s x.1.Val.S]), (true, [.s x.2.Var, .i .i64 x.2.Val.N, .s x.2.Val.S])]) (fun x => True) (fun x => []) (fun x => .one (false, [.b (decide (x.1 = x.2))]))
@[go_sem] theorem c_laws_eqBind_eq (a_Var : List UInt8) (a_Val_N : Int) (a_Val_S : List UInt8) (b_Var : List UInt8) (b_Val_N : Int) (b_Val_S : List UInt8) : c_laws_eqBind [(true, [.s a_Var, .i .i64 a_Val_N, .s a_Val_S]), (true, [.s b_Var, .i .i64 b_Val_N, .s b_Val_S])] = some (True, [], .one (false, [.b (decide ((GBind.mk a_Var (GValue.mk a_Val_N a_Val_S)) = (GBind.mk b_Var (GValue.mk b_Val_N b_Val_S))))])) := famCt_eq (by rintro ⟨⟨_, ⟨_, _⟩⟩, ⟨_, ⟨_, _⟩⟩⟩ ⟨⟨_, ⟨_, _⟩⟩, ⟨_, ⟨_, _⟩⟩⟩ h; simp only [List.cons.injEq, Prod.mk.injEq, C.i.injEq, C.s.injEq, C.b.injEq, C.sl.injEq, C.p.injEq, C.mp.injEq, C.f.injEq, true_and, and_true] at h; simp_all) ((GBind.mk a_Var (GValue.mk a_Val_N a_Val_S)), (GBind.mk b_Var (GValue.mk b_Val_N b_Val_S)))
theorem c_laws_eqBind_ok : ∀ vs q o r, c_laws_eqBind vs = some (q, o, r) → q → SpecO Try.prog 199 vs o r := famCt_ok (fun x h => k_laws_eqBind x.1 x.2)
def ac_laws_eqBindS : ACode := .seq (.reg false [⟨some 4, .mov (.k (.v false [.c (.b false)])), none⟩]) (.seq (.seq (.reg false [⟨some 6, .mov (.t 0), none⟩, ⟨some 7, .len (.t 6), none⟩,
  ⟨some 8, .mov (.t 1), none⟩, ⟨some 9, .len (.t 8), none⟩, ⟨some 10, .bin .neq (.t 7) (.t 9), none⟩]) (.cond (.t 10) (.seq (.reg false [⟨some 4, .mov (.k (.v
  false [.c (.b false)])), none⟩]) .ret) .skip)) (.seq (.seq (.reg false [⟨some 5, .mov (.k (.v false [.c (.i .i64 0)])), none⟩]) (.block 0 (.loop (.seq (.seq
  (.reg false [⟨some 11, .mov (.t 5), none⟩, ⟨some 12, .mov (.t 0), none⟩, ⟨some 13, .len (.t 12), none⟩, ⟨some 14, .bin .lss (.t 11) (.t 13), none⟩]) (.cond
  (.t 14) .skip (.exit 0))) (.seq (.block 1 (.seq (.reg true [⟨some 17, .mov (.t 0), none⟩, ⟨some 18, .mov (.t 5), none⟩, ⟨some 19, .ia 3 (.t 17) (.t 18),
  none⟩, ⟨some 20, .ld true 3 (.t 19), none⟩, ⟨some 21, .mov (.t 1), none⟩, ⟨some 22, .mov (.t 5), none⟩, ⟨some 23, .ia 3 (.t 21) (.t 22), none⟩, ⟨some 24, .ld
  true 3 (.t 23), none⟩, ⟨some 25, .call 199 [.t 20, .t 24], none⟩, ⟨some 26, .not (.t 25), none⟩]) (.cond (.t 26) (.seq (.reg false [⟨some 4, .mov (.k (.v
  false [.c (.b false)])), none⟩]) .ret) .skip))) (.reg false [⟨some 15, .mov (.t 5), none⟩, ⟨some 16, .bin .add (.t 15) (.k (.v false [.c (.i .i64 1)])),
  none⟩, ⟨some 5, .mov (.t 16), none⟩])))))) (.seq (.reg false [⟨some 4, .mov (.k (.v false [.c (.b true)])), none⟩]) .ret)))
theorem hc_laws_eqBindS : Try.f114.body.bind (comp Try.prog Try.f114.ntmps) = some ac_laws_eqBindS := by kernel_rfl
theorem k_laws_eqBindS (a : List GBind) (b : List GBind) : SpecO Try.prog 114 [(false, [.sl false [.s [], .i .i64 0, .s []] (a.map GBind.cells)]), (false, [.sl false [.s [], .i .i64 0, .s []] (b.map GBind.cells)])] [] (.one (false, [.b (decide (a = b))])) := by
  refine spec_of2 false false none Try.func114 hc_laws_eqBindS (rvs := [.t 4]) (hΓ := mkCtx_ok (deep := false) (l := [(199, [], c_laws_eqBind)]) ⟨c_laws_eqBind_ok, trivial⟩) (h := ?_)
  intro hb hE
  simp only [go_sem] at hb
  unfold ac_laws_eqBindS
  (first | refine AX_AW ?_ | skip); simp only [go_sem, reduceIte, reduceCtorEq, Nat.reduceEqDiff, Int.reduceToNat, Nat.reduceAdd, Nat.reduceLeDiff, Nat.reduceMul, Nat.reduceSub, Nat.reduceMod, Nat.reduceDiv, Nat.reduceLT, Nat.reduceBEq, List.reduceReplicate, ← and_assoc]; (repeat' first | apply CJ.mk | intro hc); all_goals try ((repeat' first | apply And.intro | intro hs) <;> (try simp only [go_sem, Bool.and_eq_false_iff] at hs) <;> omega)
  · symm
    rw [decide_eq_false_iff_not]
    rintro rfl
    simp at hc
  have hl : a.length = b.length := by simpa [Int.ofNat_inj] using hc
  refine aw_loop2 false [] [0, 1] [] [] (fun i : {i : Nat // i ≤ a.length ∧ a.take i = b.take i} => [(5, slV (.i .i64 i.1))]) (fun i => []) (fun i => []) (fun i => a.length - i.1) (⟨0, by simp⟩) _ rfl ?_ ?_
  · simp only [go_sem, reduceIte, reduceCtorEq, Nat.reduceEqDiff, Int.reduceToNat, Nat.reduceAdd, Nat.reduceLeDiff, Nat.reduceMul, Nat.reduceSub, Nat.reduceMod, Nat.reduceDiv, Nat.reduceLT, Nat.reduceBEq, List.reduceReplicate, ← and_assoc]
    all_goals first | omega | ((repeat' apply And.intro) <;> first | omega | rfl | skip)
  intro S0 hS0 i
  simp only [go_sem, reduceIte, reduceCtorEq, Nat.reduceEqDiff, Int.reduceToNat, Nat.reduceAdd, Nat.reduceLeDiff, Nat.reduceMul, Nat.reduceSub, Nat.reduceMod, Nat.reduceDiv, Nat.reduceLT, Nat.reduceBEq, List.reduceReplicate, ← and_assoc] at hS0
  obtain ⟨i, hi, ht⟩ := i
  (first | refine AX_AW ?_ | skip); simp only [go_sem, reduceIte, reduceCtorEq, Nat.reduceEqDiff, Int.reduceToNat, Nat.reduceAdd, Nat.reduceLeDiff, Nat.reduceMul, Nat.reduceSub, Nat.reduceMod, Nat.reduceDiv, Nat.reduceLT, Nat.reduceBEq, List.reduceReplicate, ← and_assoc, hS0]; (repeat' first | apply CJ.mk | intro hc); all_goals try ((repeat' first | apply And.intro | intro hs) <;> (try simp only [go_sem, Bool.and_eq_false_iff] at hs) <;> omega)
  · exact (decide_eq_false (ne_of_getD default (i := i) (by simpa using hc))).symm
  · (refine lpK_n2 (⟨i + 1, by omega, take_succ_eq ht (by omega) (by omega) (d := default) (by simpa using hc)⟩) _ rfl ?_; simp only [go_sem, reduceIte, reduceCtorEq, Nat.reduceEqDiff, Int.reduceToNat, Nat.reduceAdd, Nat.reduceLeDiff, Nat.reduceMul, Nat.reduceSub, Nat.reduceMod, Nat.reduceDiv, Nat.reduceLT, Nat.reduceBEq, List.reduceReplicate, ← and_assoc, hS0]; first | done | ((repeat' apply And.intro) <;> first | omega | (refine w64 ?_ ?_ ?_ <;> omega) | rfl | skip))
  · exact (decide_eq_true (eq_of_take hl ht (by omega))).symm
  all_goals trace_state
noncomputable def c_laws_eqBindS : List V → Option (Prop × List (Nat × V) × R) := famCt (α := (List GBind) × (List GBind)) (fun x => [(false, [.sl false [.s [], .i .i64 0, .s []] (x.1.map GBind.cells)]), (false, [.sl false [.s [], .i .i64 0, .s []] (x.2.map GBind.cells)])]) (fun x => True) (fun x => []) (fun x => .one (false, [.b (decide (x.1 = x.2))]))
@[go_sem] theorem c_laws_eqBindS_eq (a : List GBind) (b : List GBind) : c_laws_eqBindS [(false, [.sl false [.s [], .i .i64 0, .s []] (a.map GBind.cells)]), (false, [.sl false [.s [], .i .i64 0, .s []] (b.map GBind.cells)])] = some (True, [], .one (false, [.b (decide (a = b))])) := famCt_eq (by rintro ⟨_, _⟩ ⟨_, _⟩ h; simp only [List.cons.injEq, Prod.mk.injEq, C.i.injEq, C.s.injEq, C.b.injEq, C.sl.injEq, C.p.injEq, C.mp.injEq, C.f.injEq, true_and, and_true, GBind_map_inj] at h; simp_all) (a, b)
theorem c_laws_eqBindS_ok : ∀ vs q o r, c_laws_eqBindS vs = some (q, o, r) → q → SpecO Try.prog 114 vs o r := famCt_ok (fun x h => k_laws_eqBindS x.1 x.2)
def ac_laws_eqEnv : ACode := .seq (.reg false [⟨some 2, .box 1 (.t 0), none⟩, ⟨some 3, .box 1 (.t 1), none⟩, ⟨some 4, .mov (.k (.v false [.c (.b false)])), none⟩]) (.seq (.seq (.reg false
  [⟨some 5, .fa 0 (.t 2), none⟩, ⟨some 6, .ld false 1 (.t 5), none⟩, ⟨some 7, .fa 0 (.t 3), none⟩, ⟨some 8, .ld false 1 (.t 7), none⟩, ⟨some 9, .call 114 [.t 6,
  .t 8], none⟩, ⟨some 10, .not (.t 9), none⟩]) (.cond (.t 10) (.seq (.reg false [⟨some 4, .mov (.k (.v false [.c (.b false)])), none⟩]) .ret) .skip)) (.seq
  (.reg false [⟨some 4, .mov (.k (.v false [.c (.b true)])), none⟩]) .ret))
theorem hc_laws_eqEnv : Try.f39.body.bind (comp Try.prog Try.f39.ntmps) = some ac_laws_eqEnv := by kernel_rfl
theorem k_laws_eqEnv (a : GEnv) (b : GEnv) : SpecO Try.prog 39 [(true, [.sl false [.s [], .i .i64 0, .s []] (a.Binds.map GBind.cells)]), (true, [.sl false [.s [], .i .i64 0, .s []] (b.Binds.map GBind.cells)])] [] (.one (false, [.b (decide (a = b))])) := by
  refine spec_of2 false false none Try.func39 hc_laws_eqEnv (rvs := [.t 4]) (hΓ := mkCtx_ok (deep := false) (l := [(114, [], c_laws_eqBindS)]) ⟨c_laws_eqBindS_ok, trivial⟩) (h := ?_)
  intro hb hE
  simp only [go_sem] at hb
  unfold ac_laws_eqEnv
  (first | refine AX_AW ?_ | skip); simp only [go_sem, reduceIte, reduceCtorEq, Nat.reduceEqDiff, Int.reduceToNat, Nat.reduceAdd, Nat.reduceLeDiff, Nat.reduceMul, Nat.reduceSub, Nat.reduceMod, Nat.reduceDiv, Nat.reduceLT, Nat.reduceBEq, List.reduceReplicate, ← and_assoc]; (repeat' first | apply CJ.mk | intro hc); all_goals try ((repeat' first | apply And.intro | intro hs) <;> (try simp only [go_sem, Bool.and_eq_false_iff] at hs) <;> omega)
  all_goals (cases a; cases b; simp_all)
noncomputable def c_laws_eqEnv : List V → Option (Prop × List (Nat × V) × R) := famCt (α := GEnv × GEnv) (fun x => [(true, [.sl false [.s [], .i .i64 0, .s []] (x.1.Binds.map GBind.cells)]), (true, [.sl false [.s [], .i .i64 0, .s []] (x.2.Binds.map GBind.cells)])]) (fun x => True) (fun x => []) (fun x => .one (false, [.b (decide (x.1 = x.2))]))
@[go_sem] theorem c_laws_eqEnv_eq (a_Binds : List GBind) (b_Binds : List GBind) : c_laws_eqEnv [(true, [.sl false [.s [], .i .i64 0, .s []] (a_Binds.map GBind.cells)]), (true, [.sl false [.s [], .i .i64 0, .s []] (b_Binds.map GBind.cells)])] = some (True, [], .one (false, [.b (decide ((GEnv.mk a_Binds) = (GEnv.mk b_Binds)))])) := famCt_eq (by rintro ⟨⟨_⟩, ⟨_⟩⟩ ⟨⟨_⟩, ⟨_⟩⟩ h; simp only [List.cons.injEq, Prod.mk.injEq, C.i.injEq, C.s.injEq, C.b.injEq, C.sl.injEq, C.p.injEq, C.mp.injEq, C.f.injEq, true_and, and_true, GBind_map_inj] at h; simp_all) ((GEnv.mk a_Binds), (GEnv.mk b_Binds))
theorem c_laws_eqEnv_ok : ∀ vs q o r, c_laws_eqEnv vs = some (q, o, r) → q → SpecO Try.prog 39 vs o r := famCt_ok (fun x h => k_laws_eqEnv x.1 x.2)
end Go.Aw
