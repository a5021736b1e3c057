/- Ports that acts send to. No condition. -/
import Derived.Test.YtojlgbkikicklaaeeG4
import Derived.Test.YtojlgbkikicklaaeeS1
import Derived.Test.YtojlgbkikicklaadBwt
namespace Go.Aw
open Go.Proofs
attribute [local irreducible] aft blk lpK retK AW SpecO
set_option linter.unusedVariables false
set_option linter.unusedSimpArgs false
set_option maxRecDepth 100000
def outsOf (l : List GAct) : List Int := (l.filter fun a => a.Kind == 1).map GAct.A
def sendsTo (l : List GAct) : List Int := bif actsOk l then Lib.compact (sortL iLt (outsOf l)) else []
theorem outsOf_yes {l : List GAct} {i : Nat} (h : i < l.length) (hk : ((l.getD i default).Kind == 1) = true) : outsOf (l.take (i + 1)) = outsOf (l.take i) ++ [(l.getD i default).A] := by
  unfold outsOf
  rw [take_snoc' default h, List.filter_append, List.map_append]
  simp only [List.filter_cons, hk, if_true, List.filter_nil, List.map_cons, List.map_nil]
theorem outsOf_no {l : List GAct} {i : Nat} (h : i < l.length) (hk : ((l.getD i default).Kind == 1) = false) : outsOf (l.take (i + 1)) = outsOf (l.take i) := by
  unfold outsOf
  rw [take_snoc' default h, List.filter_append, List.map_append]
  simp only [List.filter_cons, hk, Bool.false_eq_true, if_false, List.filter_nil, List.map_nil, List.append_nil]
theorem outsOf_len (l : List GAct) : (outsOf l).length ≤ l.length := by
  unfold outsOf
  rw [List.length_map]
  exact List.length_filter_le _ _
theorem actsOk_len {l : List GAct} (h : actsOk l = true) : l.length ≤ 12 := by
  simp only [actsOk, Bool.and_eq_true, decide_eq_true_eq] at h
  omega
def ac_impl_SendsTo : ACode := .seq (.reg false [⟨some 2, .mov (.k (.v false [.nl [.i .i64 0]])), none⟩]) (.seq (.reg false [⟨some 6, .bsl 1 0 [.i .i64] [], none⟩, ⟨some 3, .mov (.t 6),
  none⟩]) (.seq (.seq (.reg false [⟨some 7, .mov (.t 0), none⟩, ⟨some 8, .call 72 [.t 7], none⟩, ⟨some 9, .not (.t 8), none⟩]) (.cond (.t 9) (.seq (.reg false
  [⟨some 10, .mov (.t 3), none⟩, ⟨some 2, .mov (.t 10), none⟩]) .ret) .skip)) (.seq (.seq (.reg false [⟨some 11, .mov (.t 0), none⟩, ⟨some 12, .len (.t 11),
  none⟩, ⟨some 13, .mov (.k (.v false [.c (.i .i64 0)])), none⟩]) (.block 0 (.loop (.seq (.reg false [⟨some 14, .bin .lss (.t 13) (.t 12), none⟩]) (.seq (.cond
  (.t 14) .skip (.exit 0)) (.seq (.block 1 (.seq (.reg false [⟨some 15, .ia 3 (.t 11) (.t 13), none⟩, ⟨some 16, .ld true 3 (.t 15), none⟩, ⟨some 5, .alloc [.i
  .i64, .i .i64, .i .i64], none⟩, ⟨none, .st 3 (.t 5) (.t 16), none⟩]) (.seq (.reg false [⟨some 17, .fa 0 (.t 5), none⟩, ⟨some 18, .ld false 1 (.t 17), none⟩,
  ⟨some 19, .bin .eql (.t 18) (.k (.v false [.c (.i .i64 1)])), none⟩]) (.cond (.t 19) (.reg false [⟨some 20, .mov (.t 3), none⟩, ⟨some 21, .fa 1 (.t 5), none⟩,
  ⟨some 22, .ld false 1 (.t 21), none⟩, ⟨some 23, .bsl 1 1 [.i .i64] [(0, .t 22)], none⟩, ⟨some 24, .app 1 8 [.i .i64] (.t 20) (.t 23), none⟩, ⟨some 3, .mov (.t
  24), none⟩]) .skip)))) (.reg false [⟨some 25, .bin .add (.t 13) (.k (.v false [.c (.i .i64 1)])), none⟩, ⟨some 13, .mov (.t 25), none⟩]))))))) (.seq (.reg
  false [⟨some 26, .mov (.t 3), none⟩, ⟨some 27, .call 73 [.t 26], none⟩]) (.seq (.reg false [⟨some 28, .mov (.t 3), none⟩, ⟨some 29, .call 74 [.t 28], none⟩,
  ⟨some 2, .mov (.t 29), none⟩]) .ret)))))
theorem hc_impl_SendsTo : Try.f15.body.bind (comp Try.prog Try.f15.ntmps) = some ac_impl_SendsTo := by kernel_rfl
theorem k_impl_SendsTo (l : List GAct) : SpecO Try.prog 15 [(false, [.sl false [.i .i64 0, .i .i64 0, .i .i64 0] (l.map GAct.cells)])] [] (.one (false, [.sl true [.i .i64 0] ((sendsTo l).map cInt)])) := by
  refine spec_of2 false false none Try.func15 hc_impl_SendsTo (rvs := [.t 2]) (hΓ := mkCtx_ok (deep := false) (l := [(72, [], c_impl_ActsOk), (73, [0], c_sortInt), (74, [0], c_comInt)]) ⟨c_impl_ActsOk_ok, c_sortInt_ok, c_comInt_ok, trivial⟩) (h := ?_)
  intro hb hE
  simp only [go_sem] at hb
  unfold ac_impl_SendsTo
  (first | refine AX_AW ?_ | skip); simp only [go_sem, reduceIte, reduceCtorEq, Nat.reduceEqDiff, Int.reduceToNat, Nat.reduceAdd, Nat.reduceLeDiff, Nat.reduceMul, Nat.reduceSub, Nat.reduceMod, Nat.reduceDiv, Nat.reduceLT, Nat.reduceBEq, List.reduceReplicate, ← and_assoc]; (repeat' first | apply CJ.mk | intro hc); all_goals try ((repeat' first | apply And.intro | intro hs) <;> (try simp only [go_sem, Bool.and_eq_false_iff] at hs) <;> omega)
  · rw [sendsTo, hc]; rfl
  have h12 := actsOk_len hc
  have hok := hc
  refine aw_loop2 false [(false, 3, 0, 100006)] [11, 12] [] [] (fun i : {i : Nat // i ≤ l.length} => [(3, .v false [.ow 100006]), (13, slV (.i .i64 i.1))]) (fun i => []) (fun i => [(100006, [.i .i64 0], (outsOf (l.take i.1)).map cInt)]) (fun i => l.length - i.1) (⟨0, by simp⟩) _ (by simp only [go_sem, reduceIte, reduceCtorEq, Nat.reduceEqDiff, Int.reduceToNat, Nat.reduceAdd, Nat.reduceLeDiff, Nat.reduceMul, Nat.reduceSub, Nat.reduceMod, Nat.reduceDiv, Nat.reduceLT, Nat.reduceBEq, List.reduceReplicate, ← and_assoc]; try rfl) ?_ ?_
  · simp only [go_sem, reduceIte, reduceCtorEq, Nat.reduceEqDiff, Int.reduceToNat, Nat.reduceAdd, Nat.reduceLeDiff, Nat.reduceMul, Nat.reduceSub, Nat.reduceMod, Nat.reduceDiv, Nat.reduceLT, Nat.reduceBEq, List.reduceReplicate, ← and_assoc]
    all_goals first | omega | ((repeat' apply And.intro) <;> first | omega | rfl | skip)
  intro S0 hS0 i
  simp only [go_sem, reduceIte, reduceCtorEq, Nat.reduceEqDiff, Int.reduceToNat, Nat.reduceAdd, Nat.reduceLeDiff, Nat.reduceMul, Nat.reduceSub, Nat.reduceMod, Nat.reduceDiv, Nat.reduceLT, Nat.reduceBEq, List.reduceReplicate, ← and_assoc] at hS0
  obtain ⟨i, hi⟩ := i
  (first | refine AX_AW ?_ | skip); simp only [go_sem, reduceIte, reduceCtorEq, Nat.reduceEqDiff, Int.reduceToNat, Nat.reduceAdd, Nat.reduceLeDiff, Nat.reduceMul, Nat.reduceSub, Nat.reduceMod, Nat.reduceDiv, Nat.reduceLT, Nat.reduceBEq, List.reduceReplicate, ← and_assoc, hS0]; (repeat' first | apply CJ.mk | intro hc); all_goals try ((repeat' first | apply And.intro | intro hs) <;> (try simp only [go_sem, Bool.and_eq_false_iff] at hs) <;> omega)
  · have := outsOf_len (l.take i); simp at this; omega
  · (refine lpK_n2 (⟨i + 1, by omega⟩) _ (by simp only [go_sem, reduceIte, reduceCtorEq, Nat.reduceEqDiff, Int.reduceToNat, Nat.reduceAdd, Nat.reduceLeDiff, Nat.reduceMul, Nat.reduceSub, Nat.reduceMod, Nat.reduceDiv, Nat.reduceLT, Nat.reduceBEq, List.reduceReplicate, ← and_assoc]; try rfl) ?_; simp only [go_sem, reduceIte, reduceCtorEq, Nat.reduceEqDiff, Int.reduceToNat, Nat.reduceAdd, Nat.reduceLeDiff, Nat.reduceMul, Nat.reduceSub, Nat.reduceMod, Nat.reduceDiv, Nat.reduceLT, Nat.reduceBEq, List.reduceReplicate, ← and_assoc, hS0]; first | done | ((repeat' apply And.intro) <;> first | omega | (refine w64 ?_ ?_ ?_ <;> omega) | rfl | skip))
    all_goals rw [outsOf_yes (by omega) hc]
  · (refine lpK_n2 (⟨i + 1, by omega⟩) _ (by simp only [go_sem, reduceIte, reduceCtorEq, Nat.reduceEqDiff, Int.reduceToNat, Nat.reduceAdd, Nat.reduceLeDiff, Nat.reduceMul, Nat.reduceSub, Nat.reduceMod, Nat.reduceDiv, Nat.reduceLT, Nat.reduceBEq, List.reduceReplicate, ← and_assoc]; try rfl) ?_; simp only [go_sem, reduceIte, reduceCtorEq, Nat.reduceEqDiff, Int.reduceToNat, Nat.reduceAdd, Nat.reduceLeDiff, Nat.reduceMul, Nat.reduceSub, Nat.reduceMod, Nat.reduceDiv, Nat.reduceLT, Nat.reduceBEq, List.reduceReplicate, ← and_assoc, hS0]; first | done | ((repeat' apply And.intro) <;> first | omega | (refine w64 ?_ ?_ ?_ <;> omega) | rfl | skip))
    all_goals rw [outsOf_no (by omega) hc]
  · have := outsOf_len (l.take i); simp at this; omega
  · rw [sendsTo, hok, take_all (by omega)]; rfl
  all_goals trace_state
noncomputable def c_impl_SendsTo : List V → Option (Prop × List (Nat × V) × R) := famCt (α := (List GAct)) (fun x => [(false, [.sl false [.i .i64 0, .i .i64 0, .i .i64 0] (x.map GAct.cells)])]) (fun x => True) (fun x => []) (fun x => .one (false, [.sl true [.i .i64 0] ((sendsTo x).map cInt)]))
@[go_sem] theorem c_impl_SendsTo_eq (l : List GAct) : c_impl_SendsTo [(false, [.sl false [.i .i64 0, .i .i64 0, .i .i64 0] (l.map GAct.cells)])] = some (True, [], .one (false, [.sl true [.i .i64 0] ((sendsTo l).map cInt)])) := famCt_eq (by intro x y h; simp only [List.cons.injEq, Prod.mk.injEq, C.i.injEq, C.s.injEq, C.b.injEq, C.sl.injEq, C.p.injEq, C.mp.injEq, C.f.injEq, true_and, and_true, GAct_map_inj] at h; simp_all) l
theorem c_impl_SendsTo_ok : ∀ vs q o r, c_impl_SendsTo vs = some (q, o, r) → q → SpecO Try.prog 15 vs o r := famCt_ok (fun x h => k_impl_SendsTo x)
def ac_spec_l06In : ACode := .seq (.reg false [⟨some 4, .mov (.k (.v false [.c (.b false)])), none⟩]) (.seq (.seq (.reg false [⟨some 7, .mov (.t 0), none⟩, ⟨some 8, .len (.t 7), none⟩,
  ⟨some 9, .mov (.k (.v false [.c (.i .i64 0)])), none⟩]) (.block 0 (.loop (.seq (.reg false [⟨some 10, .bin .lss (.t 9) (.t 8), none⟩]) (.seq (.cond (.t 10)
  .skip (.exit 0)) (.seq (.block 1 (.seq (.reg false [⟨some 11, .ia 1 (.t 7) (.t 9), none⟩, ⟨some 12, .ld false 1 (.t 11), none⟩, ⟨some 6, .mov (.t 12), none⟩])
  (.seq (.reg false [⟨some 13, .mov (.t 6), none⟩, ⟨some 14, .mov (.t 1), none⟩, ⟨some 15, .bin .eql (.t 13) (.t 14), none⟩]) (.cond (.t 15) (.seq (.reg false
  [⟨some 4, .mov (.k (.v false [.c (.b true)])), none⟩]) .ret) .skip)))) (.reg false [⟨some 16, .bin .add (.t 9) (.k (.v false [.c (.i .i64 1)])), none⟩, ⟨some
  9, .mov (.t 16), none⟩]))))))) (.seq (.reg false [⟨some 4, .mov (.k (.v false [.c (.b false)])), none⟩]) .ret))
theorem hc_spec_l06In : Try.f70.body.bind (comp Try.prog Try.f70.ntmps) = some ac_spec_l06In := by kernel_rfl
theorem k_spec_l06In (l : List Int) (n : Int) : SpecO Try.prog 70 [(false, [.sl false [.i .i64 0] (l.map cInt)]), (false, [.i .i64 n])] [] (.one (false, [.b (l.contains n)])) := by
  refine spec_of2 false false none Try.func70 hc_spec_l06In (rvs := [.t 4]) (hΓ := mkCtx_ok (deep := false) (l := []) trivial) (h := ?_)
  intro hb hE
  simp only [go_sem] at hb
  unfold ac_spec_l06In
  (first | refine AX_AW ?_ | skip); simp only [go_sem, reduceIte, reduceCtorEq, Nat.reduceEqDiff, Int.reduceToNat, Nat.reduceAdd, Nat.reduceLeDiff, Nat.reduceMul, Nat.reduceSub, Nat.reduceMod, Nat.reduceDiv, Nat.reduceLT, Nat.reduceBEq, List.reduceReplicate, ← and_assoc]; (repeat' first | apply CJ.mk | intro hc); all_goals try ((repeat' first | apply And.intro | intro hs) <;> (try simp only [go_sem, Bool.and_eq_false_iff] at hs) <;> omega)
  refine aw_loop2 false [] [1, 7, 8] [] [] (fun i : {i : Nat // i ≤ l.length ∧ (l.take i).any (fun x => x == n) = false} => [(9, slV (.i .i64 i.1))]) (fun i => []) (fun i => []) (fun i => l.length - i.1) (⟨0, by simp⟩) _ rfl ?_ ?_
  · simp only [go_sem, reduceIte, reduceCtorEq, Nat.reduceEqDiff, Int.reduceToNat, Nat.reduceAdd, Nat.reduceLeDiff, Nat.reduceMul, Nat.reduceSub, Nat.reduceMod, Nat.reduceDiv, Nat.reduceLT, Nat.reduceBEq, List.reduceReplicate, ← and_assoc]
    all_goals first | omega | ((repeat' apply And.intro) <;> first | omega | rfl | skip)
  intro S0 hS0 i
  simp only [go_sem, reduceIte, reduceCtorEq, Nat.reduceEqDiff, Int.reduceToNat, Nat.reduceAdd, Nat.reduceLeDiff, Nat.reduceMul, Nat.reduceSub, Nat.reduceMod, Nat.reduceDiv, Nat.reduceLT, Nat.reduceBEq, List.reduceReplicate, ← and_assoc] at hS0
  obtain ⟨i, hi, ha⟩ := i
  (first | refine AX_AW ?_ | skip); simp only [go_sem, reduceIte, reduceCtorEq, Nat.reduceEqDiff, Int.reduceToNat, Nat.reduceAdd, Nat.reduceLeDiff, Nat.reduceMul, Nat.reduceSub, Nat.reduceMod, Nat.reduceDiv, Nat.reduceLT, Nat.reduceBEq, List.reduceReplicate, ← and_assoc, hS0]; (repeat' first | apply CJ.mk | intro hc); all_goals try ((repeat' first | apply And.intro | intro hs) <;> (try simp only [go_sem, Bool.and_eq_false_iff] at hs) <;> omega)
  · rw [List.contains_eq_any_beq, any_true (d := 0) (i := i) (by omega) (by rw [beq_iff_eq] at hc ⊢; exact hc.symm)]
  · (refine lpK_n2 (⟨i + 1, by omega, any_snoc 0 (by omega) ha hc⟩) _ rfl ?_; simp only [go_sem, reduceIte, reduceCtorEq, Nat.reduceEqDiff, Int.reduceToNat, Nat.reduceAdd, Nat.reduceLeDiff, Nat.reduceMul, Nat.reduceSub, Nat.reduceMod, Nat.reduceDiv, Nat.reduceLT, Nat.reduceBEq, List.reduceReplicate, ← and_assoc, hS0]; first | done | ((repeat' apply And.intro) <;> first | omega | (refine w64 ?_ ?_ ?_ <;> omega) | rfl | skip))
  · rw [List.contains_eq_any_beq]
    rw [take_all (by omega)] at ha
    rw [← ha]
    congr 1
    funext x
    exact Bool.eq_iff_iff.2 ⟨fun h => by rw [beq_iff_eq] at h ⊢; exact h.symm, fun h => by rw [beq_iff_eq] at h ⊢; exact h.symm⟩
  all_goals trace_state
noncomputable def c_spec_l06In : List V → Option (Prop × List (Nat × V) × R) := famCt (α := (List Int) × Int) (fun x => [(false, [.sl false [.i .i64 0] (x.1.map cInt)]), (false, [.i .i64 x.2])]) (fun x => True) (fun x => []) (fun x => .one (false, [.b (x.1.contains x.2)]))
@[go_sem] theorem c_spec_l06In_eq (l : List Int) (n : Int) : c_spec_l06In [(false, [.sl false [.i .i64 0] (l.map cInt)]), (false, [.i .i64 n])] = some (True, [], .one (false, [.b (l.contains n)])) := famCt_eq (by rintro ⟨_, _⟩ ⟨_, _⟩ h; simp only [List.cons.injEq, Prod.mk.injEq, C.i.injEq, C.s.injEq, C.b.injEq, C.sl.injEq, C.p.injEq, C.mp.injEq, C.f.injEq, true_and, and_true, cInt_map_inj] at h; simp_all) (l, n)
theorem c_spec_l06In_ok : ∀ vs q o r, c_spec_l06In vs = some (q, o, r) → q → SpecO Try.prog 70 vs o r := famCt_ok (fun x h => k_spec_l06In x.1 x.2)
def upP (l : List GAct) (k : Nat) : List Int := ((List.range k).map fun i : Nat => (i : Int) + 1).filter fun p => (outsOf l).contains p
theorem upP_not (l : List GAct) (k : Nat) : ¬ ((k : Int) + 1) ∈ upP l k := by
  unfold upP
  simp only [List.mem_filter, List.mem_map, List.mem_range, not_and]
  rintro ⟨i, hi, e⟩
  omega
theorem upP_has (l : List GAct) (k : Nat) (b : Bool) : (upP l k ++ bif b then [(k : Int) + 1] else []).contains ((k : Int) + 1) = b := by
  have := upP_not l k
  cases b with
  | true => simp
  | false => simpa using this
theorem upP_succ (l : List GAct) (k : Nat) : upP l (k + 1) = upP l k ++ bif (outsOf l).contains ((k : Int) + 1) then [(k : Int) + 1] else [] := by
  unfold upP
  rw [List.range_succ, List.map_append, List.filter_append]
  cases h : (outsOf l).contains ((k : Int) + 1) <;> simp only [List.map_cons, List.map_nil, List.filter_cons, h, if_true, Bool.false_eq_true, if_false, List.filter_nil, cond_true, cond_false]
theorem outsOf_any (l : List GAct) (x : Int) : (outsOf l).contains x = l.any fun a => a.Kind == 1 && a.A == x := by
  rw [Bool.eq_iff_iff]
  unfold outsOf
  simp [List.any_eq_true, and_assoc]
theorem upP_SS (l : List GAct) (k : Nat) : SS iLt (upP l k) := by
  unfold upP
  refine SS.filter ?_ _
  unfold SS
  rw [List.pairwise_map]
  exact (List.pairwise_lt_range (n := k)).imp fun h => by simp only [iLt, decide_eq_true_eq]; omega
theorem sendsTo_up {l : List GAct} (h : actsOk l = true) : sendsTo l = upP l 255 := by
  rw [sendsTo, h]
  refine compact_sort iLt_sto (upP_SS l 255) fun x => ?_
  unfold upP
  simp only [List.mem_filter, List.mem_map, List.mem_range, List.contains_iff_mem]
  refine ⟨fun h => h.2, fun hx => ⟨?_, hx⟩⟩
  have hx2 := hx
  unfold outsOf at hx2
  simp only [List.mem_map, List.mem_filter, beq_iff_eq] at hx2
  obtain ⟨a, ⟨ha, hk⟩, rfl⟩ := hx2
  simp only [actsOk, Bool.and_eq_true, List.all_eq_true] at h
  have := h.1 a ha
  rw [actB, hk] at this
  simp only [beq_self_eq_true, cond_true, Bool.and_eq_true, decide_eq_true_eq] at this
  exact ⟨(a.A - 1).toNat, by omega, by omega⟩
theorem upP_len (l : List GAct) (k : Nat) : (upP l k).length ≤ k := by
  unfold upP
  refine Nat.le_trans (List.length_filter_le _ _) ?_
  simp
def toK (k : Nat) (a : GAct) : Bool := a.Kind == 1 && a.A == (k : Int) + 1
theorem bif_len (b : Bool) (x : Int) : (bif b then [x] else []).length ≤ 1 := by cases b <;> simp
def ac_spec_SendsTo : ACode := .seq (.reg false [⟨some 2, .mov (.k (.v false [.nl [.i .i64 0]])), none⟩]) (.seq (.reg false [⟨some 7, .bsl 1 0 [.i .i64] [], none⟩, ⟨some 3, .mov (.t 7),
  none⟩]) (.seq (.seq (.reg false [⟨some 8, .mov (.t 0), none⟩, ⟨some 9, .call 69 [.t 8], none⟩, ⟨some 10, .not (.t 9), none⟩]) (.cond (.t 10) (.seq (.reg false
  [⟨some 11, .mov (.t 3), none⟩, ⟨some 2, .mov (.t 11), none⟩]) .ret) .skip)) (.seq (.seq (.reg false [⟨some 4, .mov (.k (.v false [.c (.i .i64 1)])), none⟩])
  (.block 0 (.loop (.seq (.seq (.reg false [⟨some 12, .mov (.t 4), none⟩, ⟨some 13, .bin .leq (.t 12) (.k (.v false [.c (.i .i64 255)])), none⟩]) (.cond (.t 13)
  .skip (.exit 0))) (.seq (.block 1 (.seq (.reg false [⟨some 16, .mov (.t 0), none⟩, ⟨some 17, .len (.t 16), none⟩, ⟨some 18, .mov (.k (.v false [.c (.i .i64
  0)])), none⟩]) (.block 2 (.loop (.seq (.reg false [⟨some 19, .bin .lss (.t 18) (.t 17), none⟩]) (.seq (.cond (.t 19) .skip (.exit 2)) (.seq (.block 3 (.seq
  (.reg false [⟨some 20, .ia 3 (.t 16) (.t 18), none⟩, ⟨some 21, .ld true 3 (.t 20), none⟩, ⟨some 6, .alloc [.i .i64, .i .i64, .i .i64], none⟩, ⟨none, .st 3 (.t
  6) (.t 21), none⟩]) (.seq (.reg false [⟨some 22, .fa 0 (.t 6), none⟩, ⟨some 23, .ld false 1 (.t 22), none⟩, ⟨some 24, .bin .eql (.t 23) (.k (.v false [.c (.i
  .i64 1)])), none⟩, ⟨some 25, .mov (.t 24), none⟩, ⟨some 26, .fa 1 (.t 6), some (25, true)⟩, ⟨some 27, .ld false 1 (.t 26), some (25, true)⟩, ⟨some 28, .mov
  (.t 4), some (25, true)⟩, ⟨some 29, .bin .eql (.t 27) (.t 28), some (25, true)⟩, ⟨some 30, .pick (.t 25) (.t 29) (.k (.v false [.c (.b false)])), none⟩, ⟨some
  31, .mov (.t 30), none⟩, ⟨some 32, .mov (.t 3), some (31, true)⟩, ⟨some 33, .mov (.t 4), some (31, true)⟩, ⟨some 34, .call 70 [.t 32, .t 33], some (31,
  true)⟩, ⟨some 35, .not (.t 34), some (31, true)⟩, ⟨some 36, .pick (.t 31) (.t 35) (.k (.v false [.c (.b false)])), none⟩]) (.cond (.t 36) (.reg false [⟨some
  37, .mov (.t 3), none⟩, ⟨some 38, .mov (.t 4), none⟩, ⟨some 39, .bsl 1 1 [.i .i64] [(0, .t 38)], none⟩, ⟨some 40, .app 1 8 [.i .i64] (.t 37) (.t 39), none⟩,
  ⟨some 3, .mov (.t 40), none⟩]) .skip)))) (.reg false [⟨some 41, .bin .add (.t 18) (.k (.v false [.c (.i .i64 1)])), none⟩, ⟨some 18, .mov (.t 41),
  none⟩])))))))) (.reg false [⟨some 14, .mov (.t 4), none⟩, ⟨some 15, .bin .add (.t 14) (.k (.v false [.c (.i .i64 1)])), none⟩, ⟨some 4, .mov (.t 15),
  none⟩])))))) (.seq (.reg false [⟨some 42, .mov (.t 3), none⟩, ⟨some 2, .mov (.t 42), none⟩]) .ret))))
theorem hc_spec_SendsTo : Try.f13.body.bind (comp Try.prog Try.f13.ntmps) = some ac_spec_SendsTo := by kernel_rfl
theorem k_spec_SendsTo (l : List GAct) : SpecO Try.prog 13 [(false, [.sl false [.i .i64 0, .i .i64 0, .i .i64 0] (l.map GAct.cells)])] [] (.one (false, [.sl true [.i .i64 0] ((sendsTo l).map cInt)])) := by
  refine spec_of2 false false none Try.func13 hc_spec_SendsTo (rvs := [.t 2]) (hΓ := mkCtx_ok (deep := false) (l := [(69, [], c_spec_ActsOk), (70, [], c_spec_l06In)]) ⟨c_spec_ActsOk_ok, c_spec_l06In_ok, trivial⟩) (h := ?_)
  intro hb hE
  simp only [go_sem] at hb
  unfold ac_spec_SendsTo
  (first | refine AX_AW ?_ | skip); simp only [go_sem, reduceIte, reduceCtorEq, Nat.reduceEqDiff, Int.reduceToNat, Nat.reduceAdd, Nat.reduceLeDiff, Nat.reduceMul, Nat.reduceSub, Nat.reduceMod, Nat.reduceDiv, Nat.reduceLT, Nat.reduceBEq, List.reduceReplicate, ← and_assoc]; (repeat' first | apply CJ.mk | intro hc); all_goals try ((repeat' first | apply And.intro | intro hs) <;> (try simp only [go_sem, Bool.and_eq_false_iff] at hs) <;> omega)
  · rw [sendsTo, hc]; rfl
  have hok := hc
  refine aw_loop2 false [(false, 3, 0, 100006)] [0] [] [] (fun i : {k : Nat // k ≤ 255} => [(3, .v false [.ow 100006]), (4, slV (.i .i64 ((i.1 : Int) + 1)))]) (fun i => []) (fun i => [(100006, [.i .i64 0], (upP l i.1).map cInt)]) (fun i => 255 - i.1) (⟨0, by simp⟩) _ (by simp only [go_sem, reduceIte, reduceCtorEq, Nat.reduceEqDiff, Int.reduceToNat, Nat.reduceAdd, Nat.reduceLeDiff, Nat.reduceMul, Nat.reduceSub, Nat.reduceMod, Nat.reduceDiv, Nat.reduceLT, Nat.reduceBEq, List.reduceReplicate, ← and_assoc]; try rfl) ?_ ?_
  · simp only [go_sem, reduceIte, reduceCtorEq, Nat.reduceEqDiff, Int.reduceToNat, Nat.reduceAdd, Nat.reduceLeDiff, Nat.reduceMul, Nat.reduceSub, Nat.reduceMod, Nat.reduceDiv, Nat.reduceLT, Nat.reduceBEq, List.reduceReplicate, ← and_assoc]
    all_goals first | omega | ((repeat' apply And.intro) <;> first | omega | rfl | skip)
  intro S0 hS0 i
  simp only [go_sem, reduceIte, reduceCtorEq, Nat.reduceEqDiff, Int.reduceToNat, Nat.reduceAdd, Nat.reduceLeDiff, Nat.reduceMul, Nat.reduceSub, Nat.reduceMod, Nat.reduceDiv, Nat.reduceLT, Nat.reduceBEq, List.reduceReplicate, ← and_assoc] at hS0
  obtain ⟨k, hk⟩ := i
  (first | refine AX_AW ?_ | skip); simp only [go_sem, reduceIte, reduceCtorEq, Nat.reduceEqDiff, Int.reduceToNat, Nat.reduceAdd, Nat.reduceLeDiff, Nat.reduceMul, Nat.reduceSub, Nat.reduceMod, Nat.reduceDiv, Nat.reduceLT, Nat.reduceBEq, List.reduceReplicate, ← and_assoc, hS0]; (repeat' first | apply CJ.mk | intro hc); all_goals try ((repeat' first | apply And.intro | intro hs) <;> (try simp only [go_sem, Bool.and_eq_false_iff] at hs) <;> omega)
  · have hu := upP_has l k
    refine aw_loop2 false [(false, 3, 0, 100006)] [0, 4, 16, 17] [] [] (fun i : {j : Nat // j ≤ l.length} => [(3, .v false [.ow 100006]), (18, slV (.i .i64 i.1))]) (fun i => []) (fun i => [(100006, [.i .i64 0], (upP l k ++ bif (l.take i.1).any (toK k) then [(k : Int) + 1] else []).map cInt)]) (fun i => l.length - i.1) (⟨0, by simp⟩) _ (by simp only [go_sem, reduceIte, reduceCtorEq, Nat.reduceEqDiff, Int.reduceToNat, Nat.reduceAdd, Nat.reduceLeDiff, Nat.reduceMul, Nat.reduceSub, Nat.reduceMod, Nat.reduceDiv, Nat.reduceLT, Nat.reduceBEq, List.reduceReplicate, ← and_assoc, hS0]; try rfl) ?_ ?_
    · simp only [go_sem, reduceIte, reduceCtorEq, Nat.reduceEqDiff, Int.reduceToNat, Nat.reduceAdd, Nat.reduceLeDiff, Nat.reduceMul, Nat.reduceSub, Nat.reduceMod, Nat.reduceDiv, Nat.reduceLT, Nat.reduceBEq, List.reduceReplicate, ← and_assoc, hS0]
      all_goals first | omega | ((repeat' apply And.intro) <;> first | omega | rfl | skip)
    intro S1 hS1 i
    simp only [go_sem, reduceIte, reduceCtorEq, Nat.reduceEqDiff, Int.reduceToNat, Nat.reduceAdd, Nat.reduceLeDiff, Nat.reduceMul, Nat.reduceSub, Nat.reduceMod, Nat.reduceDiv, Nat.reduceLT, Nat.reduceBEq, List.reduceReplicate, ← and_assoc, hS0] at hS1
    obtain ⟨j, hj⟩ := i
    (first | refine AX_AW ?_ | skip); simp only [go_sem, reduceIte, reduceCtorEq, Nat.reduceEqDiff, Int.reduceToNat, Nat.reduceAdd, Nat.reduceLeDiff, Nat.reduceMul, Nat.reduceSub, Nat.reduceMod, Nat.reduceDiv, Nat.reduceLT, Nat.reduceBEq, List.reduceReplicate, ← and_assoc, hS0, hS1, hu]; (repeat' first | apply CJ.mk | intro hc); all_goals try ((repeat' first | apply And.intro | intro hs) <;> (try simp only [go_sem, Bool.and_eq_false_iff] at hs) <;> omega)
    · have := upP_len l k; have := bif_len ((l.take j).any (toK k)) ((k : Int) + 1); omega
    · have h1 : toK k (l.getD j default) = true := by simp only [toK, hc.1.1, hc.1.2, Bool.and_self]
      (refine lpK_n2 (⟨j + 1, by omega⟩) _ (by simp only [go_sem, reduceIte, reduceCtorEq, Nat.reduceEqDiff, Int.reduceToNat, Nat.reduceAdd, Nat.reduceLeDiff, Nat.reduceMul, Nat.reduceSub, Nat.reduceMod, Nat.reduceDiv, Nat.reduceLT, Nat.reduceBEq, List.reduceReplicate, ← and_assoc, hS0]; try rfl) ?_; simp only [go_sem, reduceIte, reduceCtorEq, Nat.reduceEqDiff, Int.reduceToNat, Nat.reduceAdd, Nat.reduceLeDiff, Nat.reduceMul, Nat.reduceSub, Nat.reduceMod, Nat.reduceDiv, Nat.reduceLT, Nat.reduceBEq, List.reduceReplicate, ← and_assoc, hS0, hS1, hu]; first | done | ((repeat' apply And.intro) <;> first | omega | (refine w64 ?_ ?_ ?_ <;> omega) | rfl | skip))
      all_goals (rw [any_take_succ (d := default) (by omega), hc.2, h1]; try simp)
    · have h1 : ((l.take (j + 1)).any (toK k)) = (l.take j).any (toK k) := by
        rw [any_take_succ (d := default) (by omega)]
        have hc' : (toK k (l.getD j default) && !(l.take j).any (toK k)) = false := hc
        revert hc'
        cases toK k (l.getD j default) <;> cases (l.take j).any (toK k) <;> simp
      (refine lpK_n2 (⟨j + 1, by omega⟩) _ (by simp only [go_sem, reduceIte, reduceCtorEq, Nat.reduceEqDiff, Int.reduceToNat, Nat.reduceAdd, Nat.reduceLeDiff, Nat.reduceMul, Nat.reduceSub, Nat.reduceMod, Nat.reduceDiv, Nat.reduceLT, Nat.reduceBEq, List.reduceReplicate, ← and_assoc, hS0]; try rfl) ?_; simp only [go_sem, reduceIte, reduceCtorEq, Nat.reduceEqDiff, Int.reduceToNat, Nat.reduceAdd, Nat.reduceLeDiff, Nat.reduceMul, Nat.reduceSub, Nat.reduceMod, Nat.reduceDiv, Nat.reduceLT, Nat.reduceBEq, List.reduceReplicate, ← and_assoc, hS0, hS1, hu]; first | done | ((repeat' apply And.intro) <;> first | omega | (refine w64 ?_ ?_ ?_ <;> omega) | rfl | skip))
      all_goals rw [h1]
    · have h1 : upP l (k + 1) = upP l k ++ bif (l.take j).any (toK k) then [(k : Int) + 1] else [] := by
        rw [upP_succ, outsOf_any, take_all (by omega)]
        rfl
      (refine lpK_n2 (⟨k + 1, by omega⟩) _ (by simp only [go_sem, reduceIte, reduceCtorEq, Nat.reduceEqDiff, Int.reduceToNat, Nat.reduceAdd, Nat.reduceLeDiff, Nat.reduceMul, Nat.reduceSub, Nat.reduceMod, Nat.reduceDiv, Nat.reduceLT, Nat.reduceBEq, List.reduceReplicate, ← and_assoc, hS0]; try rfl) ?_; simp only [go_sem, reduceIte, reduceCtorEq, Nat.reduceEqDiff, Int.reduceToNat, Nat.reduceAdd, Nat.reduceLeDiff, Nat.reduceMul, Nat.reduceSub, Nat.reduceMod, Nat.reduceDiv, Nat.reduceLT, Nat.reduceBEq, List.reduceReplicate, ← and_assoc, hS0, hS1, hu]; first | done | ((repeat' apply And.intro) <;> first | omega | (refine w64 ?_ ?_ ?_ <;> omega) | rfl | skip))
      all_goals rw [h1]
  · rw [sendsTo_up hok, show k = 255 by omega]
  all_goals trace_state
noncomputable def c_spec_SendsTo : List V → Option (Prop × List (Nat × V) × R) := famCt (α := (List GAct)) (fun x => [(false, [.sl false [.i .i64 0, .i .i64 0, .i .i64 0] (x.map GAct.cells)])]) (fun x => True) (fun x => []) (fun x => .one (false, [.sl true [.i .i64 0] ((sendsTo x).map cInt)]))
@[go_sem] theorem c_spec_SendsTo_eq (l : List GAct) : c_spec_SendsTo [(false, [.sl false [.i .i64 0, .i .i64 0, .i .i64 0] (l.map GAct.cells)])] = some (True, [], .one (false, [.sl true [.i .i64 0] ((sendsTo l).map cInt)])) := famCt_eq (by intro x y h; simp only [List.cons.injEq, Prod.mk.injEq, C.i.injEq, C.s.injEq, C.b.injEq, C.sl.injEq, C.p.injEq, C.mp.injEq, C.f.injEq, true_and, and_true, GAct_map_inj] at h; simp_all) l
theorem c_spec_SendsTo_ok : ∀ vs q o r, c_spec_SendsTo vs = some (q, o, r) → q → SpecO Try.prog 13 vs o r := famCt_ok (fun x h => k_spec_SendsTo x)
end Go.Aw
