/- Marked lists of numbers, texts, acts. No condition. -/
import Derived.Test.YtojlgbkikicklaaeeM1
import Derived.Test.YtojlgbkikicklaadBwt
namespace Go.Aw
open Go.Proofs
attribute [local irreducible] aft blk lpK retK AW SpecO
set_option linter.unusedVariables false
set_option linter.unusedSimpArgs false
set_option maxRecDepth 100000
def mark1int (k : Int) : Int := k
def markLint (n : Nat) (k : Int) : List Int := (List.range n).map fun i : Nat => mark1int (k + 1 * (i : Int))
theorem markLint_len (n : Nat) (k : Int) : (markLint n k).length = n := by simp [markLint]
theorem markLint_getD (n : Nat) (k : Int) {i : Nat} (h : i < n) : (markLint n k).getD i 0 = mark1int (k + 1 * (i : Int)) := by
  rw [List.getD_eq_getElem?_getD, markLint, List.getElem?_map, List.getElem?_range h]
  rfl
def mark1str (k : Int) : (List UInt8) := (mtext k)
def markLstr (n : Nat) (k : Int) : List (List UInt8) := (List.range n).map fun i : Nat => mark1str (k + 1 * (i : Int))
theorem markLstr_len (n : Nat) (k : Int) : (markLstr n k).length = n := by simp [markLstr]
theorem markLstr_getD (n : Nat) (k : Int) {i : Nat} (h : i < n) : (markLstr n k).getD i [] = mark1str (k + 1 * (i : Int)) := by
  rw [List.getD_eq_getElem?_getD, markLstr, List.getElem?_map, List.getElem?_range h]
  rfl
def mark1Act (k : Int) : GAct := (GAct.mk k (k + 1) (k + 2))
def markLAct (n : Nat) (k : Int) : List GAct := (List.range n).map fun i : Nat => mark1Act (k + 3 * (i : Int))
theorem markLAct_len (n : Nat) (k : Int) : (markLAct n k).length = n := by simp [markLAct]
theorem markLAct_getD (n : Nat) (k : Int) {i : Nat} (h : i < n) : (markLAct n k).getD i default = mark1Act (k + 3 * (i : Int)) := by
  rw [List.getD_eq_getElem?_getD, markLAct, List.getElem?_map, List.getElem?_range h]
  rfl
def ac_laws_markIntS : ACode := .seq (.reg false [⟨some 4, .mov (.k (.v false [.c (.i .i64 0)])), none⟩]) (.seq (.seq (.reg false [⟨some 5, .mov (.k (.v false [.c (.i .i64 0)])), none⟩])
  (.block 0 (.loop (.seq (.seq (.reg false [⟨some 6, .mov (.t 5), none⟩, ⟨some 7, .mov (.t 0), none⟩, ⟨some 8, .len (.t 7), none⟩, ⟨some 9, .bin .lss (.t 6) (.t
  8), none⟩]) (.cond (.t 9) .skip (.exit 0))) (.seq (.block 1 (.seq (.reg false [⟨some 12, .mov (.t 0), none⟩, ⟨some 13, .mov (.t 5), none⟩, ⟨some 14, .mov (.t
  1), none⟩, ⟨some 15, .ia 1 (.t 12) (.t 13), none⟩, ⟨none, .st 1 (.t 15) (.t 14), none⟩]) (.reg false [⟨some 16, .mov (.t 1), none⟩, ⟨some 17, .bin .add (.t
  16) (.k (.v false [.c (.i .i64 1)])), none⟩, ⟨some 1, .mov (.t 17), none⟩]))) (.reg false [⟨some 10, .mov (.t 5), none⟩, ⟨some 11, .bin .add (.t 10) (.k (.v
  false [.c (.i .i64 1)])), none⟩, ⟨some 5, .mov (.t 11), none⟩])))))) (.seq (.reg false [⟨some 18, .mov (.t 1), none⟩, ⟨some 4, .mov (.t 18), none⟩]) .ret))
theorem hc_laws_markIntS : Try.f19.body.bind (comp Try.prog Try.f19.ntmps) = some ac_laws_markIntS := by kernel_rfl
theorem k_laws_markIntS (a : List Int) (k : Int) (hpre : 0 ≤ k ∧ k + 1 * (a.length : Nat) ≤ 4611686018427387904) : SpecO Try.prog 19 [(false, [.sl true [.i .i64 0] (a.map cInt)]), (false, [.i .i64 k])] [(0, (false, [.sl true [.i .i64 0] ((markLint a.length k).map cInt)]))] (.one (false, [.i .i64 (k + 1 * (a.length : Nat))])) := by
  refine spec_of2 true false (some 0) Try.func19 hc_laws_markIntS (rvs := [.t 4]) (hΓ := mkCtx_ok (deep := true) (l := []) trivial) (h := ?_)
  intro hb hE
  simp only [go_sem] at hb
  unfold ac_laws_markIntS
  (first | refine AX_AW ?_ | skip); simp only [go_sem, reduceIte, reduceCtorEq, Nat.reduceEqDiff, Int.reduceToNat, Nat.reduceAdd, Nat.reduceLeDiff, Nat.reduceMul, Nat.reduceSub, Nat.reduceMod, Nat.reduceDiv, Nat.reduceLT, Nat.reduceBEq, List.reduceReplicate, ← and_assoc]; (repeat' first | apply CJ.mk | intro hc); all_goals try ((repeat' first | apply And.intro | intro hs) <;> (try simp only [go_sem, Bool.and_eq_false_iff] at hs) <;> omega)
  refine aw_loop2 true [] [0] [] [] (fun i : {p : Nat × (List Int) // p.1 ≤ a.length ∧ p.2.length = a.length ∧ p.2.take p.1 = (markLint a.length k).take p.1} => [(5, slV (.i .i64 i.1.1)), (1, slV (.i .i64 (k + 1 * (i.1.1 : Int))))]) (fun i => []) (fun i => [(1, [.i .i64 0], i.1.2.map cInt)]) (fun i => a.length - i.1.1) (⟨(0, a), by simp⟩) _ rfl ?_ ?_
  · simp only [go_sem, reduceIte, reduceCtorEq, Nat.reduceEqDiff, Int.reduceToNat, Nat.reduceAdd, Nat.reduceLeDiff, Nat.reduceMul, Nat.reduceSub, Nat.reduceMod, Nat.reduceDiv, Nat.reduceLT, Nat.reduceBEq, List.reduceReplicate, ← and_assoc]
    all_goals first | omega | ((repeat' apply And.intro) <;> first | omega | rfl | skip)
  intro S0 hS0 i
  simp only [go_sem, reduceIte, reduceCtorEq, Nat.reduceEqDiff, Int.reduceToNat, Nat.reduceAdd, Nat.reduceLeDiff, Nat.reduceMul, Nat.reduceSub, Nat.reduceMod, Nat.reduceDiv, Nat.reduceLT, Nat.reduceBEq, List.reduceReplicate, ← and_assoc] at hS0
  obtain ⟨⟨i, L⟩, hi, hl, ht⟩ := i
  simp only at hi hl ht
  by_cases hil : (i : Int) < L.length
  · have hgs : ∀ x, (L.set i x).getD i 0 = x := fun x => by rw [List.getD_eq_getElem?_getD, List.getElem?_set_self (by omega)]; rfl
    have hss : ∀ x y, (L.set i x).set i y = L.set i y := fun x y => List.set_set ..
    have hw0 : IntKind.i64.wrap (k + 1 * (i : Int) + 1) = k + 1 * (i : Int) + 1 := w64 (by omega) (by omega) (by omega)
    (first | refine AX_AW ?_ | skip); simp only [go_sem, reduceIte, reduceCtorEq, Nat.reduceEqDiff, Int.reduceToNat, Nat.reduceAdd, Nat.reduceLeDiff, Nat.reduceMul, Nat.reduceSub, Nat.reduceMod, Nat.reduceDiv, Nat.reduceLT, Nat.reduceBEq, List.reduceReplicate, ← and_assoc, hS0, hgs, hss, hil, hw0]; (repeat' first | apply CJ.mk | intro hc); all_goals try ((repeat' first | apply And.intro | intro hs) <;> (try simp only [go_sem, Bool.and_eq_false_iff] at hs) <;> omega)
    (refine lpK_n2 (⟨(i + 1, L.set i (mark1int (k + 1 * (i : Int)))), by simp only; omega, by simp [hl], by rw [← markLint_getD a.length k (show i < a.length by omega)]; exact take_set_succ (by rw [hl, markLint_len]) ht (by rw [markLint_len]; omega)⟩) _ rfl ?_; simp only [go_sem, reduceIte, reduceCtorEq, Nat.reduceEqDiff, Int.reduceToNat, Nat.reduceAdd, Nat.reduceLeDiff, Nat.reduceMul, Nat.reduceSub, Nat.reduceMod, Nat.reduceDiv, Nat.reduceLT, Nat.reduceBEq, List.reduceReplicate, ← and_assoc, hS0, hgs, hss, hil, hw0]; first | done | ((repeat' apply And.intro) <;> first | omega | (refine w64 ?_ ?_ ?_ <;> omega) | rfl | skip))
    · exact (hc trivial).elim
  · (first | refine AX_AW ?_ | skip); simp only [go_sem, reduceIte, reduceCtorEq, Nat.reduceEqDiff, Int.reduceToNat, Nat.reduceAdd, Nat.reduceLeDiff, Nat.reduceMul, Nat.reduceSub, Nat.reduceMod, Nat.reduceDiv, Nat.reduceLT, Nat.reduceBEq, List.reduceReplicate, ← and_assoc, hS0, hil]; (repeat' first | apply CJ.mk | intro hc); all_goals try ((repeat' first | apply And.intro | intro hs) <;> (try simp only [go_sem, Bool.and_eq_false_iff] at hs) <;> omega)
    obtain rfl : i = a.length := by omega
    obtain rfl := eq_of_take (by rw [hl, markLint_len]) ht (by rw [markLint_len]; omega)
    exact ⟨rfl, rfl⟩
noncomputable def c_laws_markIntS : List V → Option (Prop × List (Nat × V) × R) := famCt (α := (List Int) × Int) (fun x => [(false, [.sl true [.i .i64 0] (x.1.map cInt)]), (false, [.i .i64 x.2])]) (fun x => 0 ≤ x.2 ∧ x.2 + 1 * (x.1.length : Nat) ≤ 4611686018427387904) (fun x => [(0, (false, [.sl true [.i .i64 0] ((markLint x.1.length x.2).map cInt)]))]) (fun x => .one (false, [.i .i64 (x.2 + 1 * (x.1.length : Nat))]))
@[go_sem] theorem c_laws_markIntS_eq (a : List Int) (k : Int) : c_laws_markIntS [(false, [.sl true [.i .i64 0] (a.map cInt)]), (false, [.i .i64 k])] = some (0 ≤ k ∧ k + 1 * (a.length : Nat) ≤ 4611686018427387904, [(0, (false, [.sl true [.i .i64 0] ((markLint a.length k).map cInt)]))], .one (false, [.i .i64 (k + 1 * (a.length : Nat))])) := famCt_eq (by rintro ⟨_, _⟩ ⟨_, _⟩ h; simp only [List.cons.injEq, Prod.mk.injEq, C.i.injEq, C.s.injEq, C.b.injEq, C.sl.injEq, C.p.injEq, C.mp.injEq, C.f.injEq, true_and, and_true, cInt_map_inj] at h; simp_all) (a, k)
theorem c_laws_markIntS_ok : ∀ vs q o r, c_laws_markIntS vs = some (q, o, r) → q → SpecO Try.prog 19 vs o r := famCt_ok (fun x h => k_laws_markIntS x.1 x.2 h)
def ac_laws_markActS : ACode := .seq (.reg false [⟨some 4, .mov (.k (.v false [.c (.i .i64 0)])), none⟩]) (.seq (.seq (.reg false [⟨some 5, .mov (.k (.v false [.c (.i .i64 0)])), none⟩])
  (.block 0 (.loop (.seq (.seq (.reg false [⟨some 6, .mov (.t 5), none⟩, ⟨some 7, .mov (.t 0), none⟩, ⟨some 8, .len (.t 7), none⟩, ⟨some 9, .bin .lss (.t 6) (.t
  8), none⟩]) (.cond (.t 9) .skip (.exit 0))) (.seq (.block 1 (.seq (.reg false [⟨some 12, .mov (.t 0), none⟩, ⟨some 13, .mov (.t 5), none⟩, ⟨some 14, .mov (.t
  1), none⟩, ⟨some 15, .ia 3 (.t 12) (.t 13), none⟩, ⟨some 16, .fa 0 (.t 15), none⟩, ⟨none, .st 1 (.t 16) (.t 14), none⟩]) (.seq (.reg false [⟨some 17, .mov (.t
  1), none⟩, ⟨some 18, .bin .add (.t 17) (.k (.v false [.c (.i .i64 1)])), none⟩, ⟨some 1, .mov (.t 18), none⟩]) (.seq (.reg false [⟨some 19, .mov (.t 0),
  none⟩, ⟨some 20, .mov (.t 5), none⟩, ⟨some 21, .mov (.t 1), none⟩, ⟨some 22, .ia 3 (.t 19) (.t 20), none⟩, ⟨some 23, .fa 1 (.t 22), none⟩, ⟨none, .st 1 (.t
  23) (.t 21), none⟩]) (.seq (.reg false [⟨some 24, .mov (.t 1), none⟩, ⟨some 25, .bin .add (.t 24) (.k (.v false [.c (.i .i64 1)])), none⟩, ⟨some 1, .mov (.t
  25), none⟩]) (.seq (.reg false [⟨some 26, .mov (.t 0), none⟩, ⟨some 27, .mov (.t 5), none⟩, ⟨some 28, .mov (.t 1), none⟩, ⟨some 29, .ia 3 (.t 26) (.t 27),
  none⟩, ⟨some 30, .fa 2 (.t 29), none⟩, ⟨none, .st 1 (.t 30) (.t 28), none⟩]) (.reg false [⟨some 31, .mov (.t 1), none⟩, ⟨some 32, .bin .add (.t 31) (.k (.v
  false [.c (.i .i64 1)])), none⟩, ⟨some 1, .mov (.t 32), none⟩]))))))) (.reg false [⟨some 10, .mov (.t 5), none⟩, ⟨some 11, .bin .add (.t 10) (.k (.v false [.c
  (.i .i64 1)])), none⟩, ⟨some 5, .mov (.t 11), none⟩])))))) (.seq (.reg false [⟨some 33, .mov (.t 1), none⟩, ⟨some 4, .mov (.t 33), none⟩]) .ret))
theorem hc_laws_markActS : Try.f18.body.bind (comp Try.prog Try.f18.ntmps) = some ac_laws_markActS := by kernel_rfl
theorem k_laws_markActS (a : List GAct) (k : Int) (hpre : 0 ≤ k ∧ k + 3 * (a.length : Nat) ≤ 4611686018427387904) : SpecO Try.prog 18 [(false, [.sl true [.i .i64 0, .i .i64 0, .i .i64 0] (a.map GAct.cells)]), (false, [.i .i64 k])] [(0, (false, [.sl true [.i .i64 0, .i .i64 0, .i .i64 0] ((markLAct a.length k).map GAct.cells)]))] (.one (false, [.i .i64 (k + 3 * (a.length : Nat))])) := by
  refine spec_of2 true false (some 0) Try.func18 hc_laws_markActS (rvs := [.t 4]) (hΓ := mkCtx_ok (deep := true) (l := []) trivial) (h := ?_)
  intro hb hE
  simp only [go_sem] at hb
  unfold ac_laws_markActS
  (first | refine AX_AW ?_ | skip); simp only [go_sem, reduceIte, reduceCtorEq, Nat.reduceEqDiff, Int.reduceToNat, Nat.reduceAdd, Nat.reduceLeDiff, Nat.reduceMul, Nat.reduceSub, Nat.reduceMod, Nat.reduceDiv, Nat.reduceLT, Nat.reduceBEq, List.reduceReplicate, ← and_assoc]; (repeat' first | apply CJ.mk | intro hc); all_goals try ((repeat' first | apply And.intro | intro hs) <;> (try simp only [go_sem, Bool.and_eq_false_iff] at hs) <;> omega)
  refine aw_loop2 true [] [0] [] [] (fun i : {p : Nat × (List GAct) // p.1 ≤ a.length ∧ p.2.length = a.length ∧ p.2.take p.1 = (markLAct a.length k).take p.1} => [(5, slV (.i .i64 i.1.1)), (1, slV (.i .i64 (k + 3 * (i.1.1 : Int))))]) (fun i => []) (fun i => [(1, [.i .i64 0, .i .i64 0, .i .i64 0], i.1.2.map GAct.cells)]) (fun i => a.length - i.1.1) (⟨(0, a), by simp⟩) _ rfl ?_ ?_
  · simp only [go_sem, reduceIte, reduceCtorEq, Nat.reduceEqDiff, Int.reduceToNat, Nat.reduceAdd, Nat.reduceLeDiff, Nat.reduceMul, Nat.reduceSub, Nat.reduceMod, Nat.reduceDiv, Nat.reduceLT, Nat.reduceBEq, List.reduceReplicate, ← and_assoc]
    all_goals first | omega | ((repeat' apply And.intro) <;> first | omega | rfl | skip)
  intro S0 hS0 i
  simp only [go_sem, reduceIte, reduceCtorEq, Nat.reduceEqDiff, Int.reduceToNat, Nat.reduceAdd, Nat.reduceLeDiff, Nat.reduceMul, Nat.reduceSub, Nat.reduceMod, Nat.reduceDiv, Nat.reduceLT, Nat.reduceBEq, List.reduceReplicate, ← and_assoc] at hS0
  obtain ⟨⟨i, L⟩, hi, hl, ht⟩ := i
  simp only at hi hl ht
  by_cases hil : (i : Int) < L.length
  · have hgs : ∀ x, (L.set i x).getD i default = x := fun x => by rw [List.getD_eq_getElem?_getD, List.getElem?_set_self (by omega)]; rfl
    have hss : ∀ x y, (L.set i x).set i y = L.set i y := fun x y => List.set_set ..
    have hw0 : IntKind.i64.wrap (k + 3 * (i : Int) + 1) = k + 3 * (i : Int) + 1 := w64 (by omega) (by omega) (by omega)
    have hw1 : IntKind.i64.wrap (k + 3 * (i : Int) + 1 + 1) = k + 3 * (i : Int) + 2 := w64 (by omega) (by omega) (by omega)
    have hw2 : IntKind.i64.wrap (k + 3 * (i : Int) + 2 + 1) = k + 3 * (i : Int) + 3 := w64 (by omega) (by omega) (by omega)
    (first | refine AX_AW ?_ | skip); simp only [go_sem, reduceIte, reduceCtorEq, Nat.reduceEqDiff, Int.reduceToNat, Nat.reduceAdd, Nat.reduceLeDiff, Nat.reduceMul, Nat.reduceSub, Nat.reduceMod, Nat.reduceDiv, Nat.reduceLT, Nat.reduceBEq, List.reduceReplicate, ← and_assoc, hS0, hgs, hss, hil, hw0, hw1, hw2]; (repeat' first | apply CJ.mk | intro hc); all_goals try ((repeat' first | apply And.intro | intro hs) <;> (try simp only [go_sem, Bool.and_eq_false_iff] at hs) <;> omega)
    (refine lpK_n2 (⟨(i + 1, L.set i (mark1Act (k + 3 * (i : Int)))), by simp only; omega, by simp [hl], by rw [← markLAct_getD a.length k (show i < a.length by omega)]; exact take_set_succ (by rw [hl, markLAct_len]) ht (by rw [markLAct_len]; omega)⟩) _ rfl ?_; simp only [go_sem, reduceIte, reduceCtorEq, Nat.reduceEqDiff, Int.reduceToNat, Nat.reduceAdd, Nat.reduceLeDiff, Nat.reduceMul, Nat.reduceSub, Nat.reduceMod, Nat.reduceDiv, Nat.reduceLT, Nat.reduceBEq, List.reduceReplicate, ← and_assoc, hS0, hgs, hss, hil, hw0, hw1, hw2]; first | done | ((repeat' apply And.intro) <;> first | omega | (refine w64 ?_ ?_ ?_ <;> omega) | rfl | skip))
    · exact (hc trivial).elim
  · (first | refine AX_AW ?_ | skip); simp only [go_sem, reduceIte, reduceCtorEq, Nat.reduceEqDiff, Int.reduceToNat, Nat.reduceAdd, Nat.reduceLeDiff, Nat.reduceMul, Nat.reduceSub, Nat.reduceMod, Nat.reduceDiv, Nat.reduceLT, Nat.reduceBEq, List.reduceReplicate, ← and_assoc, hS0, hil]; (repeat' first | apply CJ.mk | intro hc); all_goals try ((repeat' first | apply And.intro | intro hs) <;> (try simp only [go_sem, Bool.and_eq_false_iff] at hs) <;> omega)
    obtain rfl : i = a.length := by omega
    obtain rfl := eq_of_take (by rw [hl, markLAct_len]) ht (by rw [markLAct_len]; omega)
    exact ⟨rfl, rfl⟩
noncomputable def c_laws_markActS : List V → Option (Prop × List (Nat × V) × R) := famCt (α := (List GAct) × Int) (fun x => [(false, [.sl true [.i .i64 0, .i .i64 0, .i .i64 0] (x.1.map GAct.cells)]), (false, [.i .i64 x.2])]) (fun x => 0 ≤ x.2 ∧ x.2 + 3 * (x.1.length : Nat) ≤ 4611686018427387904) (fun x => [(0, (false, [.sl true [.i .i64 0, .i .i64 0, .i .i64 0] ((markLAct x.1.length x.2).map GAct.cells)]))]) (fun x => .one (false, [.i .i64 (x.2 + 3 * (x.1.length : Nat))]))
@[go_sem] theorem c_laws_markActS_eq (a : List GAct) (k : Int) : c_laws_markActS [(false, [.sl true [.i .i64 0, .i .i64 0, .i .i64 0] (a.map GAct.cells)]), (false, [.i .i64 k])] = some (0 ≤ k ∧ k + 3 * (a.length : Nat) ≤ 4611686018427387904, [(0, (false, [.sl true [.i .i64 0, .i .i64 0, .i .i64 0] ((markLAct a.length k).map GAct.cells)]))], .one (false, [.i .i64 (k + 3 * (a.length : Nat))])) := famCt_eq (by rintro ⟨_, _⟩ ⟨_, _⟩ h; simp only [List.cons.injEq, Prod.mk.injEq, C.i.injEq, C.s.injEq, C.b.injEq, C.sl.injEq, C.p.injEq, C.mp.injEq, C.f.injEq, true_and, and_true, GAct_map_inj] at h; simp_all) (a, k)
theorem c_laws_markActS_ok : ∀ vs q o r, c_laws_markActS vs = some (q, o, r) → q → SpecO Try.prog 18 vs o r := famCt_ok (fun x h => k_laws_markActS x.1 x.2 h)
def ac_laws_heldIntS : ACode := .seq (.reg false [⟨some 4, .mov (.k (.v false [.c (.i .i64 0)])), none⟩]) (.seq (.seq (.reg false [⟨some 5, .mov (.k (.v false [.c (.i .i64 0)])), none⟩])
  (.block 0 (.loop (.seq (.seq (.reg false [⟨some 6, .mov (.t 5), none⟩, ⟨some 7, .mov (.t 0), none⟩, ⟨some 8, .len (.t 7), none⟩, ⟨some 9, .bin .lss (.t 6) (.t
  8), none⟩]) (.cond (.t 9) .skip (.exit 0))) (.seq (.block 1 (.seq (.seq (.reg false [⟨some 12, .mov (.t 0), none⟩, ⟨some 13, .mov (.t 5), none⟩, ⟨some 14, .ia
  1 (.t 12) (.t 13), none⟩, ⟨some 15, .ld false 1 (.t 14), none⟩, ⟨some 16, .mov (.t 1), none⟩, ⟨some 17, .bin .neq (.t 15) (.t 16), none⟩]) (.cond (.t 17)
  (.seq (.reg false [⟨some 4, .mov (.k (.v false [.c (.i .i64 (-1))])), none⟩]) .ret) .skip)) (.reg false [⟨some 18, .mov (.t 1), none⟩, ⟨some 19, .bin .add (.t
  18) (.k (.v false [.c (.i .i64 1)])), none⟩, ⟨some 1, .mov (.t 19), none⟩]))) (.reg false [⟨some 10, .mov (.t 5), none⟩, ⟨some 11, .bin .add (.t 10) (.k (.v
  false [.c (.i .i64 1)])), none⟩, ⟨some 5, .mov (.t 11), none⟩])))))) (.seq (.reg false [⟨some 20, .mov (.t 1), none⟩, ⟨some 4, .mov (.t 20), none⟩]) .ret))
theorem hc_laws_heldIntS : Try.f20.body.bind (comp Try.prog Try.f20.ntmps) = some ac_laws_heldIntS := by kernel_rfl
theorem k_laws_heldIntS (a : List Int) (k : Int) (hpre : (0 ≤ k ∧ k + 1 * (a.length : Nat) ≤ 4611686018427387904) ∧ a = markLint a.length k) : SpecO Try.prog 20 [(false, [.sl false [.i .i64 0] (a.map cInt)]), (false, [.i .i64 k])] [] (.one (false, [.i .i64 (k + 1 * (a.length : Nat))])) := by
  refine spec_of2 false false none Try.func20 hc_laws_heldIntS (rvs := [.t 4]) (hΓ := mkCtx_ok (deep := false) (l := []) trivial) (h := ?_)
  intro hb hE
  simp only [go_sem] at hb
  unfold ac_laws_heldIntS
  (first | refine AX_AW ?_ | skip); simp only [go_sem, reduceIte, reduceCtorEq, Nat.reduceEqDiff, Int.reduceToNat, Nat.reduceAdd, Nat.reduceLeDiff, Nat.reduceMul, Nat.reduceSub, Nat.reduceMod, Nat.reduceDiv, Nat.reduceLT, Nat.reduceBEq, List.reduceReplicate, ← and_assoc]; (repeat' first | apply CJ.mk | intro hc); all_goals try ((repeat' first | apply And.intro | intro hs) <;> (try simp only [go_sem, Bool.and_eq_false_iff] at hs) <;> omega)
  refine aw_loop2 false [] [0] [] [] (fun i : {i : Nat // i ≤ a.length} => [(5, slV (.i .i64 i.1)), (1, slV (.i .i64 (k + 1 * (i.1 : Int))))]) (fun i => []) (fun i => []) (fun i => a.length - i.1) (⟨0, by omega⟩) _ rfl ?_ ?_
  · simp only [go_sem, reduceIte, reduceCtorEq, Nat.reduceEqDiff, Int.reduceToNat, Nat.reduceAdd, Nat.reduceLeDiff, Nat.reduceMul, Nat.reduceSub, Nat.reduceMod, Nat.reduceDiv, Nat.reduceLT, Nat.reduceBEq, List.reduceReplicate, ← and_assoc]
    all_goals first | omega | ((repeat' apply And.intro) <;> first | omega | rfl | skip)
  intro S0 hS0 i
  simp only [go_sem, reduceIte, reduceCtorEq, Nat.reduceEqDiff, Int.reduceToNat, Nat.reduceAdd, Nat.reduceLeDiff, Nat.reduceMul, Nat.reduceSub, Nat.reduceMod, Nat.reduceDiv, Nat.reduceLT, Nat.reduceBEq, List.reduceReplicate, ← and_assoc] at hS0
  obtain ⟨i, hi⟩ := i
  by_cases hil : (i : Int) < a.length
  · have hx : a.getD i 0 = mark1int (k + 1 * (i : Int)) := by rw [hpre.2]; exact markLint_getD _ _ (by omega)
    have hw0 : IntKind.i64.wrap (k + 1 * (i : Int) + 1) = k + 1 * (i : Int) + 1 := w64 (by omega) (by omega) (by omega)
    (first | refine AX_AW ?_ | skip); simp only [go_sem, reduceIte, reduceCtorEq, Nat.reduceEqDiff, Int.reduceToNat, Nat.reduceAdd, Nat.reduceLeDiff, Nat.reduceMul, Nat.reduceSub, Nat.reduceMod, Nat.reduceDiv, Nat.reduceLT, Nat.reduceBEq, List.reduceReplicate, ← and_assoc, hS0, hil, hx, mark1int, hw0]; (repeat' first | apply CJ.mk | intro hc); all_goals try ((repeat' first | apply And.intro | intro hs) <;> (try simp only [go_sem, Bool.and_eq_false_iff] at hs) <;> omega)
    all_goals first
      | (exfalso; simp at hc; done)
      | ((refine lpK_n2 (⟨i + 1, by omega⟩) _ rfl ?_; simp only [go_sem, reduceIte, reduceCtorEq, Nat.reduceEqDiff, Int.reduceToNat, Nat.reduceAdd, Nat.reduceLeDiff, Nat.reduceMul, Nat.reduceSub, Nat.reduceMod, Nat.reduceDiv, Nat.reduceLT, Nat.reduceBEq, List.reduceReplicate, ← and_assoc, hS0, hil, hx, mark1int, hw0]; first | done | ((repeat' apply And.intro) <;> first | omega | (refine w64 ?_ ?_ ?_ <;> omega) | rfl | skip)); done)
      | trace_state
  · (first | refine AX_AW ?_ | skip); simp only [go_sem, reduceIte, reduceCtorEq, Nat.reduceEqDiff, Int.reduceToNat, Nat.reduceAdd, Nat.reduceLeDiff, Nat.reduceMul, Nat.reduceSub, Nat.reduceMod, Nat.reduceDiv, Nat.reduceLT, Nat.reduceBEq, List.reduceReplicate, ← and_assoc, hS0, hil]; (repeat' first | apply CJ.mk | intro hc); all_goals try ((repeat' first | apply And.intro | intro hs) <;> (try simp only [go_sem, Bool.and_eq_false_iff] at hs) <;> omega)
    all_goals (obtain rfl : i = a.length := by omega)
    all_goals rfl
noncomputable def c_laws_heldIntS : List V → Option (Prop × List (Nat × V) × R) := famCt (α := (List Int) × Int) (fun x => [(false, [.sl false [.i .i64 0] (x.1.map cInt)]), (false, [.i .i64 x.2])]) (fun x => (0 ≤ x.2 ∧ x.2 + 1 * (x.1.length : Nat) ≤ 4611686018427387904) ∧ x.1 = markLint x.1.length x.2) (fun x => []) (fun x => .one (false, [.i .i64 (x.2 + 1 * (x.1.length : Nat))]))
@[go_sem] theorem c_laws_heldIntS_eq (a : List Int) (k : Int) : c_laws_heldIntS [(false, [.sl false [.i .i64 0] (a.map cInt)]), (false, [.i .i64 k])] = some ((0 ≤ k ∧ k + 1 * (a.length : Nat) ≤ 4611686018427387904) ∧ a = markLint a.length k, [], .one (false, [.i .i64 (k + 1 * (a.length : Nat))])) := famCt_eq (by rintro ⟨_, _⟩ ⟨_, _⟩ h; simp only [List.cons.injEq, Prod.mk.injEq, C.i.injEq, C.s.injEq, C.b.injEq, C.sl.injEq, C.p.injEq, C.mp.injEq, C.f.injEq, true_and, and_true, cInt_map_inj] at h; simp_all) (a, k)
theorem c_laws_heldIntS_ok : ∀ vs q o r, c_laws_heldIntS vs = some (q, o, r) → q → SpecO Try.prog 20 vs o r := famCt_ok (fun x h => k_laws_heldIntS x.1 x.2 h)
end Go.Aw
