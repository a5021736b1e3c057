/- Flows: sizes, copies, equalities. No condition. -/
import Derived.Test.YtojlgbkikicklaaeeG1
import Derived.Test.YtojlgbkikicklaadBwt
namespace Go.Aw
open Go.Proofs
attribute [local irreducible] aft blk lpK retK AW SpecO
set_option linter.unusedVariables false
set_option linter.unusedSimpArgs false
set_option maxRecDepth 100000
def totMatch (x : GMatch) : Nat := x.V.length + x.M.length
def totFlow (x : GFlow) : Nat := totMatch x.Match + x.Acts.length
def totHead (x : GHead) : Nat := x.V.length
def ac_laws_szActS : ACode := .seq (.reg false [⟨some 4, .mov (.k (.v false [.c (.i .i64 0)])), none⟩]) (.seq (.reg false [⟨some 5, .mov (.t 1), none⟩, ⟨some 6, .mov (.t 0), none⟩, ⟨some 7,
  .len (.t 6), none⟩, ⟨some 8, .bin .sub (.t 5) (.t 7), none⟩, ⟨some 1, .mov (.t 8), none⟩]) (.seq (.seq (.reg false [⟨some 9, .mov (.t 1), none⟩, ⟨some 10,
  .bin .lss (.t 9) (.k (.v false [.c (.i .i64 0)])), none⟩]) (.cond (.t 10) (.seq (.reg false [⟨some 4, .mov (.k (.v false [.c (.i .i64 (-1))])), none⟩]) .ret)
  .skip)) (.seq (.reg false [⟨some 11, .mov (.t 1), none⟩, ⟨some 4, .mov (.t 11), none⟩]) .ret)))
theorem hc_laws_szActS : Try.f12.body.bind (comp Try.prog Try.f12.ntmps) = some ac_laws_szActS := by kernel_rfl
theorem k_laws_szActS (a : List GAct) (left : Int) (hpre : 0 ≤ left ∧ left ≤ 1048576) : SpecO Try.prog 12 [(false, [.sl false [.i .i64 0, .i .i64 0, .i .i64 0] (a.map GAct.cells)]), (false, [.i .i64 left])] [] (.one (false, [.i .i64 (szR left (a.length : Nat))])) := by
  refine spec_of2 false false none Try.func12 hc_laws_szActS (rvs := [.t 4]) (hΓ := mkCtx_ok (deep := false) (l := []) trivial) (h := ?_)
  intro hb hE
  simp only [go_sem] at hb
  unfold ac_laws_szActS
  (first | refine AX_AW ?_ | skip); simp only [go_sem, reduceIte, reduceCtorEq, Nat.reduceEqDiff, Int.reduceToNat, Nat.reduceAdd, Nat.reduceLeDiff, Nat.reduceMul, Nat.reduceSub, Nat.reduceMod, Nat.reduceDiv, Nat.reduceLT, Nat.reduceBEq, List.reduceReplicate, ← and_assoc]; (repeat' first | apply CJ.mk | intro hc); all_goals try ((repeat' first | apply And.intro | intro hs) <;> (try simp only [go_sem, Bool.and_eq_false_iff] at hs) <;> omega)
  all_goals ((repeat (simp (disch := omega) only [wsub] at *)) <;> (try simp only [szR, szR] at *) <;> (first | omega | (split <;> omega)))
noncomputable def c_laws_szActS : List V → Option (Prop × List (Nat × V) × R) := famCt (α := (List GAct) × Int) (fun x => [(false, [.sl false [.i .i64 0, .i .i64 0, .i .i64 0] (x.1.map GAct.cells)]), (false, [.i .i64 x.2])]) (fun x => 0 ≤ x.2 ∧ x.2 ≤ 1048576) (fun x => []) (fun x => .one (false, [.i .i64 (szR x.2 (x.1.length : Nat))]))
@[go_sem] theorem c_laws_szActS_eq (a : List GAct) (left : Int) : c_laws_szActS [(false, [.sl false [.i .i64 0, .i .i64 0, .i .i64 0] (a.map GAct.cells)]), (false, [.i .i64 left])] = some (0 ≤ left ∧ left ≤ 1048576, [], .one (false, [.i .i64 (szR left (a.length : Nat))])) := famCt_eq (by rintro ⟨_, _⟩ ⟨_, _⟩ h; simp only [List.cons.injEq, Prod.mk.injEq, C.i.injEq, C.s.injEq, C.b.injEq, C.sl.injEq, C.p.injEq, C.mp.injEq, C.f.injEq, true_and, and_true, GAct_map_inj] at h; simp_all) (a, left)
theorem c_laws_szActS_ok : ∀ vs q o r, c_laws_szActS vs = some (q, o, r) → q → SpecO Try.prog 12 vs o r := famCt_ok (fun x h => k_laws_szActS x.1 x.2 h)
def ac_laws_toAct : ACode := .seq (.reg false [⟨some 1, .box 3 (.t 0), none⟩, ⟨some 2, .alloc [.i .i64, .i .i64, .i .i64], none⟩]) (.seq (.reg false [⟨some 3, .alloc [.i .i64, .i .i64, .i
  .i64], none⟩]) (.seq (.reg false [⟨some 4, .fa 0 (.t 1), none⟩, ⟨some 5, .ld false 1 (.t 4), none⟩, ⟨some 6, .fa 0 (.t 3), none⟩, ⟨none, .st 1 (.t 6) (.t 5),
  none⟩]) (.seq (.reg false [⟨some 7, .fa 1 (.t 1), none⟩, ⟨some 8, .ld false 1 (.t 7), none⟩, ⟨some 9, .fa 1 (.t 3), none⟩, ⟨none, .st 1 (.t 9) (.t 8), none⟩])
  (.seq (.reg false [⟨some 10, .fa 2 (.t 1), none⟩, ⟨some 11, .ld false 1 (.t 10), none⟩, ⟨some 12, .fa 2 (.t 3), none⟩, ⟨none, .st 1 (.t 12) (.t 11), none⟩])
  (.seq (.reg false [⟨some 13, .ld true 3 (.t 3), none⟩, ⟨none, .st 3 (.t 2) (.t 13), none⟩]) .ret)))))
theorem hc_laws_toAct : Try.f71.body.bind (comp Try.prog Try.f71.ntmps) = some ac_laws_toAct := by kernel_rfl
theorem k_laws_toAct (a : GAct) : SpecO Try.prog 71 [(true, [.i .i64 a.Kind, .i .i64 a.A, .i .i64 a.B])] [] (.one (true, [.i .i64 a.Kind, .i .i64 a.A, .i .i64 a.B])) := by
  refine spec_of2 true false none Try.func71 hc_laws_toAct (rvs := [.c 2 true 3]) (hΓ := mkCtx_ok (deep := true) (l := []) trivial) (h := ?_)
  intro hb hE
  simp only [go_sem] at hb
  unfold ac_laws_toAct
  (first | refine AX_AW ?_ | skip); simp only [go_sem, reduceIte, reduceCtorEq, Nat.reduceEqDiff, Int.reduceToNat, Nat.reduceAdd, Nat.reduceLeDiff, Nat.reduceMul, Nat.reduceSub, Nat.reduceMod, Nat.reduceDiv, Nat.reduceLT, Nat.reduceBEq, List.reduceReplicate, ← and_assoc]; (repeat' first | apply CJ.mk | intro hc); all_goals try ((repeat' first | apply And.intro | intro hs) <;> (try simp only [go_sem, Bool.and_eq_false_iff] at hs) <;> omega)
noncomputable def c_laws_toAct : List V → Option (Prop × List (Nat × V) × R) := famCt (α := GAct) (fun x => [(true, [.i .i64 x.Kind, .i .i64 x.A, .i .i64 x.B])]) (fun x => True) (fun x => []) (fun x => .one (true, [.i .i64 x.Kind, .i .i64 x.A, .i .i64 x.B]))
@[go_sem] theorem c_laws_toAct_eq (a_Kind : Int) (a_A : Int) (a_B : Int) : c_laws_toAct [(true, [.i .i64 a_Kind, .i .i64 a_A, .i .i64 a_B])] = some (True, [], .one (true, [.i .i64 ((GAct.mk a_Kind a_A a_B).Kind), .i .i64 ((GAct.mk a_Kind a_A a_B).A), .i .i64 ((GAct.mk a_Kind a_A a_B).B)])) := famCt_eq (by rintro ⟨_, _, _⟩ ⟨_, _, _⟩ h; simp only [List.cons.injEq, Prod.mk.injEq, C.i.injEq, C.s.injEq, C.b.injEq, C.sl.injEq, C.p.injEq, C.mp.injEq, C.f.injEq, true_and, and_true] at h; simp_all) (GAct.mk a_Kind a_A a_B)
theorem c_laws_toAct_ok : ∀ vs q o r, c_laws_toAct vs = some (q, o, r) → q → SpecO Try.prog 71 vs o r := famCt_ok (fun x h => k_laws_toAct x)
def ac_laws_toActS : ACode := .seq (.reg false [⟨some 2, .mov (.k (.v false [.nl [.i .i64 0, .i .i64 0, .i .i64 0]])), none⟩]) (.seq (.reg false [⟨some 5, .mov (.t 0), none⟩, ⟨some 6, .len
  (.t 5), none⟩, ⟨some 7, .mks 3 24 [.i .i64, .i .i64, .i .i64] (.t 6) (.t 6), none⟩, ⟨some 3, .mov (.t 7), none⟩]) (.seq (.seq (.reg false [⟨some 4, .mov (.k
  (.v false [.c (.i .i64 0)])), none⟩]) (.block 0 (.loop (.seq (.seq (.reg false [⟨some 8, .mov (.t 4), none⟩, ⟨some 9, .mov (.t 0), none⟩, ⟨some 10, .len (.t
  9), none⟩, ⟨some 11, .bin .lss (.t 8) (.t 10), none⟩]) (.cond (.t 11) .skip (.exit 0))) (.seq (.block 1 (.reg false [⟨some 14, .mov (.t 3), none⟩, ⟨some 15,
  .mov (.t 4), none⟩, ⟨some 16, .mov (.t 0), none⟩, ⟨some 17, .mov (.t 4), none⟩, ⟨some 18, .ia 3 (.t 16) (.t 17), none⟩, ⟨some 19, .ld true 3 (.t 18), none⟩,
  ⟨some 20, .call 71 [.t 19], none⟩, ⟨some 21, .ia 3 (.t 14) (.t 15), none⟩, ⟨none, .st 3 (.t 21) (.t 20), none⟩])) (.reg false [⟨some 12, .mov (.t 4), none⟩,
  ⟨some 13, .bin .add (.t 12) (.k (.v false [.c (.i .i64 1)])), none⟩, ⟨some 4, .mov (.t 13), none⟩])))))) (.seq (.reg false [⟨some 22, .mov (.t 3), none⟩,
  ⟨some 2, .mov (.t 22), none⟩]) .ret)))
theorem hc_laws_toActS : Try.f14.body.bind (comp Try.prog Try.f14.ntmps) = some ac_laws_toActS := by kernel_rfl
theorem k_laws_toActS (a : List GAct) (hpre : ((a.length : Nat) : Int) ≤ 1048576) : SpecO Try.prog 14 [(false, [.sl false [.i .i64 0, .i .i64 0, .i .i64 0] (a.map GAct.cells)])] [] (.one (false, [.sl true [.i .i64 0, .i .i64 0, .i .i64 0] (a.map GAct.cells)])) := by
  refine spec_of2 true false none Try.func14 hc_laws_toActS (rvs := [.t 2]) (hΓ := mkCtx_ok (deep := true) (l := [(71, [], c_laws_toAct)]) ⟨c_laws_toAct_ok, trivial⟩) (h := ?_)
  intro hb hE
  simp only [go_sem] at hb
  unfold ac_laws_toActS
  (first | refine AX_AW ?_ | skip); simp only [go_sem, reduceIte, reduceCtorEq, Nat.reduceEqDiff, Int.reduceToNat, Nat.reduceAdd, Nat.reduceLeDiff, Nat.reduceMul, Nat.reduceSub, Nat.reduceMod, Nat.reduceDiv, Nat.reduceLT, Nat.reduceBEq, List.reduceReplicate, ← and_assoc, GAct_rep]; (repeat' first | apply CJ.mk | intro hc); all_goals try ((repeat' first | apply And.intro | intro hs) <;> (try simp only [go_sem, Bool.and_eq_false_iff] at hs) <;> omega)
  refine aw_loop2 true [] [0, 3] [] [] (fun i : {p : Nat × (List GAct) // p.1 ≤ a.length ∧ p.2.length = a.length ∧ p.2.take p.1 = a.take p.1} => [(4, slV (.i .i64 i.1.1))]) (fun i => []) (fun i => [(896, [.i .i64 0, .i .i64 0, .i .i64 0], i.1.2.map GAct.cells)]) (fun i => a.length - i.1.1) (⟨(0, List.replicate a.length default), by simp⟩) _ rfl ?_ ?_
  · simp only [go_sem, reduceIte, reduceCtorEq, Nat.reduceEqDiff, Int.reduceToNat, Nat.reduceAdd, Nat.reduceLeDiff, Nat.reduceMul, Nat.reduceSub, Nat.reduceMod, Nat.reduceDiv, Nat.reduceLT, Nat.reduceBEq, List.reduceReplicate, ← and_assoc, GAct_rep]
    all_goals first | omega | ((repeat' apply And.intro) <;> first | omega | rfl | skip)
  intro S0 hS0 i
  simp only [go_sem, reduceIte, reduceCtorEq, Nat.reduceEqDiff, Int.reduceToNat, Nat.reduceAdd, Nat.reduceLeDiff, Nat.reduceMul, Nat.reduceSub, Nat.reduceMod, Nat.reduceDiv, Nat.reduceLT, Nat.reduceBEq, List.reduceReplicate, ← and_assoc, GAct_rep] at hS0
  obtain ⟨⟨i, L⟩, hi, hl, ht⟩ := i
  simp only at hi hl ht
  (first | refine AX_AW ?_ | skip); simp only [go_sem, reduceIte, reduceCtorEq, Nat.reduceEqDiff, Int.reduceToNat, Nat.reduceAdd, Nat.reduceLeDiff, Nat.reduceMul, Nat.reduceSub, Nat.reduceMod, Nat.reduceDiv, Nat.reduceLT, Nat.reduceBEq, List.reduceReplicate, ← and_assoc, GAct_rep, hS0]; (repeat' first | apply CJ.mk | intro hc); all_goals try ((repeat' first | apply And.intro | intro hs) <;> (try simp only [go_sem, Bool.and_eq_false_iff] at hs) <;> omega)
  · (refine lpK_n2 (⟨(i + 1, L.set i (a.getD i default)), by simp only; omega, by simp [hl], take_set_succ hl ht (by omega)⟩) _ rfl ?_; simp only [go_sem, reduceIte, reduceCtorEq, Nat.reduceEqDiff, Int.reduceToNat, Nat.reduceAdd, Nat.reduceLeDiff, Nat.reduceMul, Nat.reduceSub, Nat.reduceMod, Nat.reduceDiv, Nat.reduceLT, Nat.reduceBEq, List.reduceReplicate, ← and_assoc, GAct_rep, hS0]; first | done | ((repeat' apply And.intro) <;> first | omega | (refine w64 ?_ ?_ ?_ <;> omega) | rfl | skip))
  · obtain rfl := eq_of_take hl ht (by omega)
    rfl
  all_goals trace_state
noncomputable def c_laws_toActS : List V → Option (Prop × List (Nat × V) × R) := famCt (α := (List GAct)) (fun x => [(false, [.sl false [.i .i64 0, .i .i64 0, .i .i64 0] (x.map GAct.cells)])]) (fun x => ((x.length : Nat) : Int) ≤ 1048576) (fun x => []) (fun x => .one (false, [.sl true [.i .i64 0, .i .i64 0, .i .i64 0] (x.map GAct.cells)]))
@[go_sem] theorem c_laws_toActS_eq (a : List GAct) : c_laws_toActS [(false, [.sl false [.i .i64 0, .i .i64 0, .i .i64 0] (a.map GAct.cells)])] = some (((a.length : Nat) : Int) ≤ 1048576, [], .one (false, [.sl true [.i .i64 0, .i .i64 0, .i .i64 0] (a.map GAct.cells)])) := famCt_eq (by intro x y h; simp only [List.cons.injEq, Prod.mk.injEq, C.i.injEq, C.s.injEq, C.b.injEq, C.sl.injEq, C.p.injEq, C.mp.injEq, C.f.injEq, true_and, and_true, GAct_map_inj] at h; simp_all) a
theorem c_laws_toActS_ok : ∀ vs q o r, c_laws_toActS vs = some (q, o, r) → q → SpecO Try.prog 14 vs o r := famCt_ok (fun x h => k_laws_toActS x h)
def ac_laws_eqIntS : ACode := .seq (.reg false [⟨some 4, .mov (.k (.v false [.c (.b false)])), none⟩]) (.seq (.seq (.reg false [⟨some 6, .mov (.t 0), none⟩, ⟨some 7, .len (.t 6), none⟩,
  ⟨some 8, .mov (.t 1), none⟩, ⟨some 9, .len (.t 8), none⟩, ⟨some 10, .bin .neq (.t 7) (.t 9), none⟩]) (.cond (.t 10) (.seq (.reg false [⟨some 4, .mov (.k (.v
  false [.c (.b false)])), none⟩]) .ret) .skip)) (.seq (.seq (.reg false [⟨some 5, .mov (.k (.v false [.c (.i .i64 0)])), none⟩]) (.block 0 (.loop (.seq (.seq
  (.reg false [⟨some 11, .mov (.t 5), none⟩, ⟨some 12, .mov (.t 0), none⟩, ⟨some 13, .len (.t 12), none⟩, ⟨some 14, .bin .lss (.t 11) (.t 13), none⟩]) (.cond
  (.t 14) .skip (.exit 0))) (.seq (.block 1 (.seq (.reg true [⟨some 17, .mov (.t 0), none⟩, ⟨some 18, .mov (.t 5), none⟩, ⟨some 19, .ia 1 (.t 17) (.t 18),
  none⟩, ⟨some 20, .ld false 1 (.t 19), none⟩, ⟨some 21, .mov (.t 1), none⟩, ⟨some 22, .mov (.t 5), none⟩, ⟨some 23, .ia 1 (.t 21) (.t 22), none⟩, ⟨some 24, .ld
  false 1 (.t 23), none⟩, ⟨some 25, .bin .neq (.t 20) (.t 24), none⟩]) (.cond (.t 25) (.seq (.reg false [⟨some 4, .mov (.k (.v false [.c (.b false)])), none⟩])
  .ret) .skip))) (.reg false [⟨some 15, .mov (.t 5), none⟩, ⟨some 16, .bin .add (.t 15) (.k (.v false [.c (.i .i64 1)])), none⟩, ⟨some 5, .mov (.t 16),
  none⟩])))))) (.seq (.reg false [⟨some 4, .mov (.k (.v false [.c (.b true)])), none⟩]) .ret)))
theorem hc_laws_eqIntS : Try.f16.body.bind (comp Try.prog Try.f16.ntmps) = some ac_laws_eqIntS := by kernel_rfl
theorem k_laws_eqIntS (a : List Int) (b : List Int) : SpecO Try.prog 16 [(false, [.sl false [.i .i64 0] (a.map cInt)]), (false, [.sl false [.i .i64 0] (b.map cInt)])] [] (.one (false, [.b (decide (a = b))])) := by
  refine spec_of2 false false none Try.func16 hc_laws_eqIntS (rvs := [.t 4]) (hΓ := mkCtx_ok (deep := false) (l := []) trivial) (h := ?_)
  intro hb hE
  simp only [go_sem] at hb
  unfold ac_laws_eqIntS
  (first | refine AX_AW ?_ | skip); simp only [go_sem, reduceIte, reduceCtorEq, Nat.reduceEqDiff, Int.reduceToNat, Nat.reduceAdd, Nat.reduceLeDiff, Nat.reduceMul, Nat.reduceSub, Nat.reduceMod, Nat.reduceDiv, Nat.reduceLT, Nat.reduceBEq, List.reduceReplicate, ← and_assoc]; (repeat' first | apply CJ.mk | intro hc); all_goals try ((repeat' first | apply And.intro | intro hs) <;> (try simp only [go_sem, Bool.and_eq_false_iff] at hs) <;> omega)
  · symm
    rw [decide_eq_false_iff_not]
    rintro rfl
    simp at hc
  have hl : a.length = b.length := by simpa [Int.ofNat_inj] using hc
  refine aw_loop2 false [] [0, 1] [] [] (fun i : {i : Nat // i ≤ a.length ∧ a.take i = b.take i} => [(5, slV (.i .i64 i.1))]) (fun i => []) (fun i => []) (fun i => a.length - i.1) (⟨0, by simp⟩) _ rfl ?_ ?_
  · simp only [go_sem, reduceIte, reduceCtorEq, Nat.reduceEqDiff, Int.reduceToNat, Nat.reduceAdd, Nat.reduceLeDiff, Nat.reduceMul, Nat.reduceSub, Nat.reduceMod, Nat.reduceDiv, Nat.reduceLT, Nat.reduceBEq, List.reduceReplicate, ← and_assoc]
    all_goals first | omega | ((repeat' apply And.intro) <;> first | omega | rfl | skip)
  intro S0 hS0 i
  simp only [go_sem, reduceIte, reduceCtorEq, Nat.reduceEqDiff, Int.reduceToNat, Nat.reduceAdd, Nat.reduceLeDiff, Nat.reduceMul, Nat.reduceSub, Nat.reduceMod, Nat.reduceDiv, Nat.reduceLT, Nat.reduceBEq, List.reduceReplicate, ← and_assoc] at hS0
  obtain ⟨i, hi, ht⟩ := i
  (first | refine AX_AW ?_ | skip); simp only [go_sem, reduceIte, reduceCtorEq, Nat.reduceEqDiff, Int.reduceToNat, Nat.reduceAdd, Nat.reduceLeDiff, Nat.reduceMul, Nat.reduceSub, Nat.reduceMod, Nat.reduceDiv, Nat.reduceLT, Nat.reduceBEq, List.reduceReplicate, ← and_assoc, hS0]; (repeat' first | apply CJ.mk | intro hc); all_goals try ((repeat' first | apply And.intro | intro hs) <;> (try simp only [go_sem, Bool.and_eq_false_iff] at hs) <;> omega)
  · exact (decide_eq_false (ne_of_getD 0 (i := i) (by simpa using hc))).symm
  · (refine lpK_n2 (⟨i + 1, by omega, take_succ_eq ht (by omega) (by omega) (d := 0) (by simpa using hc)⟩) _ rfl ?_; simp only [go_sem, reduceIte, reduceCtorEq, Nat.reduceEqDiff, Int.reduceToNat, Nat.reduceAdd, Nat.reduceLeDiff, Nat.reduceMul, Nat.reduceSub, Nat.reduceMod, Nat.reduceDiv, Nat.reduceLT, Nat.reduceBEq, List.reduceReplicate, ← and_assoc, hS0]; first | done | ((repeat' apply And.intro) <;> first | omega | (refine w64 ?_ ?_ ?_ <;> omega) | rfl | skip))
  · exact (decide_eq_true (eq_of_take hl ht (by omega))).symm
  all_goals trace_state
noncomputable def c_laws_eqIntS : List V → Option (Prop × List (Nat × V) × R) := famCt (α := (List Int) × (List Int)) (fun x => [(false, [.sl false [.i .i64 0] (x.1.map cInt)]), (false, [.sl false [.i .i64 0] (x.2.map cInt)])]) (fun x => True) (fun x => []) (fun x => .one (false, [.b (decide (x.1 = x.2))]))
@[go_sem] theorem c_laws_eqIntS_eq (a : List Int) (b : List Int) : c_laws_eqIntS [(false, [.sl false [.i .i64 0] (a.map cInt)]), (false, [.sl false [.i .i64 0] (b.map cInt)])] = some (True, [], .one (false, [.b (decide (a = b))])) := famCt_eq (by rintro ⟨_, _⟩ ⟨_, _⟩ h; simp only [List.cons.injEq, Prod.mk.injEq, C.i.injEq, C.s.injEq, C.b.injEq, C.sl.injEq, C.p.injEq, C.mp.injEq, C.f.injEq, true_and, and_true, cInt_map_inj] at h; simp_all) (a, b)
theorem c_laws_eqIntS_ok : ∀ vs q o r, c_laws_eqIntS vs = some (q, o, r) → q → SpecO Try.prog 16 vs o r := famCt_ok (fun x h => k_laws_eqIntS x.1 x.2)
def ac_laws_eqAct : ACode := .seq (.reg false [⟨some 2, .box 3 (.t 0), none⟩, ⟨some 3, .box 3 (.t 1), none⟩, ⟨some 4, .mov (.k (.v false [.c (.b false)])), none⟩]) (.seq (.seq (.reg false
  [⟨some 5, .fa 0 (.t 2), none⟩, ⟨some 6, .ld false 1 (.t 5), none⟩, ⟨some 7, .fa 0 (.t 3), none⟩, ⟨some 8, .ld false 1 (.t 7), none⟩, ⟨some 9, .bin .neq (.t 6)
  (.t 8), none⟩]) (.cond (.t 9) (.seq (.reg false [⟨some 4, .mov (.k (.v false [.c (.b false)])), none⟩]) .ret) .skip)) (.seq (.seq (.reg false [⟨some 10, .fa 1
  (.t 2), none⟩, ⟨some 11, .ld false 1 (.t 10), none⟩, ⟨some 12, .fa 1 (.t 3), none⟩, ⟨some 13, .ld false 1 (.t 12), none⟩, ⟨some 14, .bin .neq (.t 11) (.t 13),
  none⟩]) (.cond (.t 14) (.seq (.reg false [⟨some 4, .mov (.k (.v false [.c (.b false)])), none⟩]) .ret) .skip)) (.seq (.seq (.reg false [⟨some 15, .fa 2 (.t
  2), none⟩, ⟨some 16, .ld false 1 (.t 15), none⟩, ⟨some 17, .fa 2 (.t 3), none⟩, ⟨some 18, .ld false 1 (.t 17), none⟩, ⟨some 19, .bin .neq (.t 16) (.t 18),
  none⟩]) (.cond (.t 19) (.seq (.reg false [⟨some 4, .mov (.k (.v false [.c (.b false)])), none⟩]) .ret) .skip)) (.seq (.reg false [⟨some 4, .mov (.k (.v false
  [.c (.b true)])), none⟩]) .ret))))
theorem hc_laws_eqAct : Try.f75.body.bind (comp Try.prog Try.f75.ntmps) = some ac_laws_eqAct := by kernel_rfl
theorem k_laws_eqAct (a : GAct) (b : GAct) : SpecO Try.prog 75 [(true, [.i .i64 a.Kind, .i .i64 a.A, .i .i64 a.B]), (true, [.i .i64 b.Kind, .i .i64 b.A, .i .i64 b.B])] [] (.one (false, [.b (decide (a = b))])) := by
  refine spec_of2 false false none Try.func75 hc_laws_eqAct (rvs := [.t 4]) (hΓ := mkCtx_ok (deep := false) (l := []) trivial) (h := ?_)
  intro hb hE
  simp only [go_sem] at hb
  unfold ac_laws_eqAct
  (first | refine AX_AW ?_ | skip); simp only [go_sem, reduceIte, reduceCtorEq, Nat.reduceEqDiff, Int.reduceToNat, Nat.reduceAdd, Nat.reduceLeDiff, Nat.reduceMul, Nat.reduceSub, Nat.reduceMod, Nat.reduceDiv, Nat.reduceLT, Nat.reduceBEq, List.reduceReplicate, ← and_assoc]; (repeat' first | apply CJ.mk | intro hc); all_goals try ((repeat' first | apply And.intro | intro hs) <;> (try simp only [go_sem, Bool.and_eq_false_iff] at hs) <;> omega)
  all_goals (cases a; cases b; simp_all)
noncomputable def c_laws_eqAct : List V → Option (Prop × List (Nat × V) × R) := famCt (α := GAct × GAct) (fun x => [(true, [.i .i64 x.1.Kind, .i .i64 x.1.A, .i .i64 x.1.B]), (true, [.i .i64 x.2.Kind, .i .i64 x.2.A, .i .i64 x.2.B])]) (fun x => True) (fun x => []) (fun x => .one (false, [.b (decide (x.1 = x.2))]))
@[go_sem] theorem c_laws_eqAct_eq (a_Kind : Int) (a_A : Int) (a_B : Int) (b_Kind : Int) (b_A : Int) (b_B : Int) : c_laws_eqAct [(true, [.i .i64 a_Kind, .i .i64 a_A, .i .i64 a_B]), (true, [.i .i64 b_Kind, .i .i64 b_A, .i .i64 b_B])] = some (True, [], .one (false, [.b (decide ((GAct.mk a_Kind a_A a_B) = (GAct.mk b_Kind b_A b_B)))])) := famCt_eq (by rintro ⟨⟨_, _, _⟩, ⟨_, _, _⟩⟩ ⟨⟨_, _, _⟩, ⟨_, _, _⟩⟩ h; simp only [List.cons.injEq, Prod.mk.injEq, C.i.injEq, C.s.injEq, C.b.injEq, C.sl.injEq, C.p.injEq, C.mp.injEq, C.f.injEq, true_and, and_true] at h; simp_all) ((GAct.mk a_Kind a_A a_B), (GAct.mk b_Kind b_A b_B))
theorem c_laws_eqAct_ok : ∀ vs q o r, c_laws_eqAct vs = some (q, o, r) → q → SpecO Try.prog 75 vs o r := famCt_ok (fun x h => k_laws_eqAct x.1 x.2)
def ac_laws_eqActS : ACode := .seq (.reg false [⟨some 4, .mov (.k (.v false [.c (.b false)])), none⟩]) (.seq (.seq (.reg false [⟨some 6, .mov (.t 0), none⟩, ⟨some 7, .len (.t 6), none⟩,
  ⟨some 8, .mov (.t 1), none⟩, ⟨some 9, .len (.t 8), none⟩, ⟨some 10, .bin .neq (.t 7) (.t 9), none⟩]) (.cond (.t 10) (.seq (.reg false [⟨some 4, .mov (.k (.v
  false [.c (.b false)])), none⟩]) .ret) .skip)) (.seq (.seq (.reg false [⟨some 5, .mov (.k (.v false [.c (.i .i64 0)])), none⟩]) (.block 0 (.loop (.seq (.seq
  (.reg false [⟨some 11, .mov (.t 5), none⟩, ⟨some 12, .mov (.t 0), none⟩, ⟨some 13, .len (.t 12), none⟩, ⟨some 14, .bin .lss (.t 11) (.t 13), none⟩]) (.cond
  (.t 14) .skip (.exit 0))) (.seq (.block 1 (.seq (.reg true [⟨some 17, .mov (.t 0), none⟩, ⟨some 18, .mov (.t 5), none⟩, ⟨some 19, .ia 3 (.t 17) (.t 18),
  none⟩, ⟨some 20, .ld true 3 (.t 19), none⟩, ⟨some 21, .mov (.t 1), none⟩, ⟨some 22, .mov (.t 5), none⟩, ⟨some 23, .ia 3 (.t 21) (.t 22), none⟩, ⟨some 24, .ld
  true 3 (.t 23), none⟩, ⟨some 25, .call 75 [.t 20, .t 24], none⟩, ⟨some 26, .not (.t 25), none⟩]) (.cond (.t 26) (.seq (.reg false [⟨some 4, .mov (.k (.v false
  [.c (.b false)])), none⟩]) .ret) .skip))) (.reg false [⟨some 15, .mov (.t 5), none⟩, ⟨some 16, .bin .add (.t 15) (.k (.v false [.c (.i .i64 1)])), none⟩,
  ⟨some 5, .mov (.t 16), none⟩])))))) (.seq (.reg false [⟨some 4, .mov (.k (.v false [.c (.b true)])), none⟩]) .ret)))
theorem hc_laws_eqActS : Try.f17.body.bind (comp Try.prog Try.f17.ntmps) = some ac_laws_eqActS := by kernel_rfl
theorem k_laws_eqActS (a : List GAct) (b : List GAct) : SpecO Try.prog 17 [(false, [.sl false [.i .i64 0, .i .i64 0, .i .i64 0] (a.map GAct.cells)]), (false, [.sl false [.i .i64 0, .i .i64 0, .i .i64 0] (b.map GAct.cells)])] [] (.one (false, [.b (decide (a = b))])) := by
  refine spec_of2 false false none Try.func17 hc_laws_eqActS (rvs := [.t 4]) (hΓ := mkCtx_ok (deep := false) (l := [(75, [], c_laws_eqAct)]) ⟨c_laws_eqAct_ok, trivial⟩) (h := ?_)
  intro hb hE
  simp only [go_sem] at hb
  unfold ac_laws_eqActS
  (first | refine AX_AW ?_ | skip); simp only [go_sem, reduceIte, reduceCtorEq, Nat.reduceEqDiff, Int.reduceToNat, Nat.reduceAdd, Nat.reduceLeDiff, Nat.reduceMul, Nat.reduceSub, Nat.reduceMod, Nat.reduceDiv, Nat.reduceLT, Nat.reduceBEq, List.reduceReplicate, ← and_assoc]; (repeat' first | apply CJ.mk | intro hc); all_goals try ((repeat' first | apply And.intro | intro hs) <;> (try simp only [go_sem, Bool.and_eq_false_iff] at hs) <;> omega)
  · symm
    rw [decide_eq_false_iff_not]
    rintro rfl
    simp at hc
  have hl : a.length = b.length := by simpa [Int.ofNat_inj] using hc
  refine aw_loop2 false [] [0, 1] [] [] (fun i : {i : Nat // i ≤ a.length ∧ a.take i = b.take i} => [(5, slV (.i .i64 i.1))]) (fun i => []) (fun i => []) (fun i => a.length - i.1) (⟨0, by simp⟩) _ rfl ?_ ?_
  · simp only [go_sem, reduceIte, reduceCtorEq, Nat.reduceEqDiff, Int.reduceToNat, Nat.reduceAdd, Nat.reduceLeDiff, Nat.reduceMul, Nat.reduceSub, Nat.reduceMod, Nat.reduceDiv, Nat.reduceLT, Nat.reduceBEq, List.reduceReplicate, ← and_assoc]
    all_goals first | omega | ((repeat' apply And.intro) <;> first | omega | rfl | skip)
  intro S0 hS0 i
  simp only [go_sem, reduceIte, reduceCtorEq, Nat.reduceEqDiff, Int.reduceToNat, Nat.reduceAdd, Nat.reduceLeDiff, Nat.reduceMul, Nat.reduceSub, Nat.reduceMod, Nat.reduceDiv, Nat.reduceLT, Nat.reduceBEq, List.reduceReplicate, ← and_assoc] at hS0
  obtain ⟨i, hi, ht⟩ := i
  (first | refine AX_AW ?_ | skip); simp only [go_sem, reduceIte, reduceCtorEq, Nat.reduceEqDiff, Int.reduceToNat, Nat.reduceAdd, Nat.reduceLeDiff, Nat.reduceMul, Nat.reduceSub, Nat.reduceMod, Nat.reduceDiv, Nat.reduceLT, Nat.reduceBEq, List.reduceReplicate, ← and_assoc, hS0]; (repeat' first | apply CJ.mk | intro hc); all_goals try ((repeat' first | apply And.intro | intro hs) <;> (try simp only [go_sem, Bool.and_eq_false_iff] at hs) <;> omega)
  · exact (decide_eq_false (ne_of_getD default (i := i) (by simpa using hc))).symm
  · (refine lpK_n2 (⟨i + 1, by omega, take_succ_eq ht (by omega) (by omega) (d := default) (by simpa using hc)⟩) _ rfl ?_; simp only [go_sem, reduceIte, reduceCtorEq, Nat.reduceEqDiff, Int.reduceToNat, Nat.reduceAdd, Nat.reduceLeDiff, Nat.reduceMul, Nat.reduceSub, Nat.reduceMod, Nat.reduceDiv, Nat.reduceLT, Nat.reduceBEq, List.reduceReplicate, ← and_assoc, hS0]; first | done | ((repeat' apply And.intro) <;> first | omega | (refine w64 ?_ ?_ ?_ <;> omega) | rfl | skip))
  · exact (decide_eq_true (eq_of_take hl ht (by omega))).symm
  all_goals trace_state
noncomputable def c_laws_eqActS : List V → Option (Prop × List (Nat × V) × R) := famCt (α := (List GAct) × (List GAct)) (fun x => [(false, [.sl false [.i .i64 0, .i .i64 0, .i .i64 0] (x.1.map GAct.cells)]), (false, [.sl false [.i .i64 0, .i .i64 0, .i .i64 0] (x.2.map GAct.cells)])]) (fun x => True) (fun x => []) (fun x => .one (false, [.b (decide (x.1 = x.2))]))
@[go_sem] theorem c_laws_eqActS_eq (a : List GAct) (b : List GAct) : c_laws_eqActS [(false, [.sl false [.i .i64 0, .i .i64 0, .i .i64 0] (a.map GAct.cells)]), (false, [.sl false [.i .i64 0, .i .i64 0, .i .i64 0] (b.map GAct.cells)])] = some (True, [], .one (false, [.b (decide (a = b))])) := famCt_eq (by rintro ⟨_, _⟩ ⟨_, _⟩ h; simp only [List.cons.injEq, Prod.mk.injEq, C.i.injEq, C.s.injEq, C.b.injEq, C.sl.injEq, C.p.injEq, C.mp.injEq, C.f.injEq, true_and, and_true, GAct_map_inj] at h; simp_all) (a, b)
theorem c_laws_eqActS_ok : ∀ vs q o r, c_laws_eqActS vs = some (q, o, r) → q → SpecO Try.prog 17 vs o r := famCt_ok (fun x h => k_laws_eqActS x.1 x.2)
end Go.Aw
