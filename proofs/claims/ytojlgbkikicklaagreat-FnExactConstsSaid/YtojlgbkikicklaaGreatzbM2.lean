/- Marked lists. No condition. -/
import Derived.Test.YtojlgbkikicklaaGreatzbM1
import Derived.Test.YtojlgbkikicklaaGreatfBwtzb
namespace Go.Aw
open Go.Proofs
attribute [local irreducible] aft blk lpK retK AW SpecO
set_option linter.unusedVariables false
set_option linter.unusedSimpArgs false
set_option maxRecDepth 100000
def mark1Value (k : Int) : GValue := (GValue.mk k (mtext (k + 1)))
def markLValue (n : Nat) (k : Int) : List GValue := (List.range n).map fun i : Nat => mark1Value (k + 2 * (i : Int))
theorem markLValue_len (n : Nat) (k : Int) : (markLValue n k).length = n := by simp [markLValue]
theorem markLValue_getD (n : Nat) (k : Int) {i : Nat} (h : i < n) : (markLValue n k).getD i default = mark1Value (k + 2 * (i : Int)) := by
  rw [List.getD_eq_getElem?_getD, markLValue, List.getElem?_map, List.getElem?_range h]
  rfl
def mark1Bind (k : Int) : GBind := (GBind.mk (mtext k) (GValue.mk (k + 1) (mtext (k + 2))))
def markLBind (n : Nat) (k : Int) : List GBind := (List.range n).map fun i : Nat => mark1Bind (k + 3 * (i : Int))
theorem markLBind_len (n : Nat) (k : Int) : (markLBind n k).length = n := by simp [markLBind]
theorem markLBind_getD (n : Nat) (k : Int) {i : Nat} (h : i < n) : (markLBind n k).getD i default = mark1Bind (k + 3 * (i : Int)) := by
  rw [List.getD_eq_getElem?_getD, markLBind, List.getElem?_map, List.getElem?_range h]
  rfl
def mark1Term (k : Int) : GTerm := (GTerm.mk (mtext k) (GValue.mk (k + 1) (mtext (k + 2))))
def markLTerm (n : Nat) (k : Int) : List GTerm := (List.range n).map fun i : Nat => mark1Term (k + 3 * (i : Int))
theorem markLTerm_len (n : Nat) (k : Int) : (markLTerm n k).length = n := by simp [markLTerm]
theorem markLTerm_getD (n : Nat) (k : Int) {i : Nat} (h : i < n) : (markLTerm n k).getD i default = mark1Term (k + 3 * (i : Int)) := by
  rw [List.getD_eq_getElem?_getD, markLTerm, List.getElem?_map, List.getElem?_range h]
  rfl
def ac_laws_markValueS : ACode := .seq (.reg false [⟨some 4, .mov (.k (.v false [.c (.i .i64 0)])), none⟩]) (.seq (.seq (.reg false [⟨some 5, .mov (.k (.v false [.c (.i .i64 0)])), none⟩])
  (.block 0 (.loop (.seq (.seq (.reg false [⟨some 6, .mov (.t 5), none⟩, ⟨some 7, .mov (.t 0), none⟩, ⟨some 8, .len (.t 7), none⟩, ⟨some 9, .bin .lss (.t 6) (.t
  8), none⟩]) (.cond (.t 9) .skip (.exit 0))) (.seq (.block 1 (.seq (.reg false [⟨some 12, .mov (.t 0), none⟩, ⟨some 13, .mov (.t 5), none⟩, ⟨some 14, .mov (.t
  1), none⟩, ⟨some 15, .ia 2 (.t 12) (.t 13), none⟩, ⟨some 16, .fa 0 (.t 15), none⟩, ⟨none, .st 1 (.t 16) (.t 14), none⟩]) (.seq (.reg false [⟨some 17, .mov (.t
  1), none⟩, ⟨some 18, .bin .add (.t 17) (.k (.v false [.c (.i .i64 1)])), none⟩, ⟨some 1, .mov (.t 18), none⟩]) (.seq (.reg false [⟨some 19, .mov (.t 0),
  none⟩, ⟨some 20, .mov (.t 5), none⟩, ⟨some 21, .mov (.t 1), none⟩, ⟨some 22, .call 92 [.t 21], none⟩, ⟨some 23, .ia 2 (.t 19) (.t 20), none⟩, ⟨some 24, .fa 1
  (.t 23), none⟩, ⟨none, .st 1 (.t 24) (.t 22), none⟩]) (.reg false [⟨some 25, .mov (.t 1), none⟩, ⟨some 26, .bin .add (.t 25) (.k (.v false [.c (.i .i64 1)])),
  none⟩, ⟨some 1, .mov (.t 26), none⟩]))))) (.reg false [⟨some 10, .mov (.t 5), none⟩, ⟨some 11, .bin .add (.t 10) (.k (.v false [.c (.i .i64 1)])), none⟩,
  ⟨some 5, .mov (.t 11), none⟩])))))) (.seq (.reg false [⟨some 27, .mov (.t 1), none⟩, ⟨some 4, .mov (.t 27), none⟩]) .ret))
theorem hc_laws_markValueS : Tryz.f214.body.bind (comp Tryz.prog Tryz.f214.ntmps) = some ac_laws_markValueS := by kernel_rfl
theorem k_laws_markValueS (a : List GValue) (k : Int) (hpre : 0 ≤ k ∧ k + 2 * (a.length : Nat) ≤ 4611686018427387904) : SpecO Tryz.prog 214 [(false, [.sl true [.i .i64 0, .s []] (a.map GValue.cells)]), (false, [.i .i64 k])] [(0, (false, [.sl true [.i .i64 0, .s []] ((markLValue a.length k).map GValue.cells)]))] (.one (false, [.i .i64 (k + 2 * (a.length : Nat))])) := by
  refine spec_of2 true false (some 0) Tryz.func214 hc_laws_markValueS (rvs := [.t 4]) (hΓ := mkCtx_ok (deep := true) (l := [(92, [], c_laws_markText)]) ⟨c_laws_markText_ok, trivial⟩) (h := ?_)
  intro hb hE
  simp only [go_sem] at hb
  unfold ac_laws_markValueS
  (try refine AX_AW ?_); simp only [go_sem]; (repeat' first | apply CJ.mk | intro hc); all_goals try ((repeat' first | apply And.intro | intro hs) <;> (try simp only [go_sem, Bool.and_eq_false_iff] at hs) <;> omega)
  refine aw_loop2 true [] [0] [] [] (fun i : {p : Nat × (List GValue) // p.1 ≤ a.length ∧ p.2.length = a.length ∧ p.2.take p.1 = (markLValue a.length k).take p.1} => [(5, slV (.i .i64 i.1.1)), (1, slV (.i .i64 (k + 2 * (i.1.1 : Int))))]) (fun i => []) (fun i => [(1, [.i .i64 0, .s []], i.1.2.map GValue.cells)]) (fun i => a.length - i.1.1) (⟨(0, a), by simp⟩) _ rfl ?_ ?_
  · simp only [go_sem]
    all_goals first | omega | ((repeat' apply And.intro) <;> first | omega | rfl | skip)
  intro S0 hS0 i
  simp only [go_sem] at hS0
  obtain ⟨⟨i, L⟩, hi, hl, ht⟩ := i
  simp only at hi hl ht
  by_cases hil : (i : Int) < L.length
  · have hgs : ∀ x, (L.set i x).getD i default = x := fun x => by rw [List.getD_eq_getElem?_getD, List.getElem?_set_self (by omega)]; rfl
    have hss : ∀ x y, (L.set i x).set i y = L.set i y := fun x y => List.set_set ..
    have hw0 : IntKind.i64.wrap (k + 2 * (i : Int) + 1) = k + 2 * (i : Int) + 1 := w64 (by omega) (by omega) (by omega)
    have hw1 : IntKind.i64.wrap (k + 2 * (i : Int) + 1 + 1) = k + 2 * (i : Int) + 2 := w64 (by omega) (by omega) (by omega)
    (try refine AX_AW ?_); simp only [go_sem, hS0, hgs, hss, hil, hw0, hw1]; (repeat' first | apply CJ.mk | intro hc); all_goals try ((repeat' first | apply And.intro | intro hs) <;> (try simp only [go_sem, Bool.and_eq_false_iff] at hs) <;> omega)
    (refine lpK_n2 (⟨(i + 1, L.set i (mark1Value (k + 2 * (i : Int)))), by simp only; omega, by simp [hl], by rw [← markLValue_getD a.length k (show i < a.length by omega)]; exact take_set_succ (by rw [hl, markLValue_len]) ht (by rw [markLValue_len]; omega)⟩) _ rfl ?_; simp only [go_sem, hS0, hgs, hss, hil, hw0, hw1]; first | done | ((repeat' apply And.intro) <;> first | omega | (refine w64 ?_ ?_ ?_ <;> omega) | rfl | skip))
    · exact (hc trivial).elim
  · (try refine AX_AW ?_); simp only [go_sem, hS0, hil]; (repeat' first | apply CJ.mk | intro hc); all_goals try ((repeat' first | apply And.intro | intro hs) <;> (try simp only [go_sem, Bool.and_eq_false_iff] at hs) <;> omega)
    obtain rfl : i = a.length := by omega
    obtain rfl := eq_of_take (by rw [hl, markLValue_len]) ht (by rw [markLValue_len]; omega)
    exact ⟨rfl, rfl⟩
noncomputable def c_laws_markValueS : List V → Option (Prop × List (Nat × V) × R) := famP (fun (x : (List GValue) × Int) h => k_laws_markValueS x.1 x.2 h)
@[go_sem] theorem c_laws_markValueS_eq (a : List GValue) (k : Int) : c_laws_markValueS [(false, [.sl true [.i .i64 0, .s []] (a.map GValue.cells)]), (false, [.i .i64 k])] = some (0 ≤ k ∧ k + 2 * (a.length : Nat) ≤ 4611686018427387904, [(0, (false, [.sl true [.i .i64 0, .s []] ((markLValue a.length k).map GValue.cells)]))], .one (false, [.i .i64 (k + 2 * (a.length : Nat))])) := famP_eq _ (by rintro ⟨_, _⟩ ⟨_, _⟩ h; simp at h; simp_all) (a, k)
theorem c_laws_markValueS_ok : ∀ vs q o r, c_laws_markValueS vs = some (q, o, r) → q → SpecO Tryz.prog 214 vs o r := famP_ok _
def ac_laws_markTermS : ACode := .seq (.reg false [⟨some 4, .mov (.k (.v false [.c (.i .i64 0)])), none⟩]) (.seq (.seq (.reg false [⟨some 5, .mov (.k (.v false [.c (.i .i64 0)])), none⟩])
  (.block 0 (.loop (.seq (.seq (.reg false [⟨some 6, .mov (.t 5), none⟩, ⟨some 7, .mov (.t 0), none⟩, ⟨some 8, .len (.t 7), none⟩, ⟨some 9, .bin .lss (.t 6) (.t
  8), none⟩]) (.cond (.t 9) .skip (.exit 0))) (.seq (.block 1 (.seq (.reg false [⟨some 12, .mov (.t 0), none⟩, ⟨some 13, .mov (.t 5), none⟩, ⟨some 14, .mov (.t
  1), none⟩, ⟨some 15, .call 92 [.t 14], none⟩, ⟨some 16, .ia 3 (.t 12) (.t 13), none⟩, ⟨some 17, .fa 0 (.t 16), none⟩, ⟨none, .st 1 (.t 17) (.t 15), none⟩])
  (.seq (.reg false [⟨some 18, .mov (.t 1), none⟩, ⟨some 19, .bin .add (.t 18) (.k (.v false [.c (.i .i64 1)])), none⟩, ⟨some 1, .mov (.t 19), none⟩]) (.seq
  (.reg false [⟨some 20, .mov (.t 0), none⟩, ⟨some 21, .mov (.t 5), none⟩, ⟨some 22, .mov (.t 1), none⟩, ⟨some 23, .ia 3 (.t 20) (.t 21), none⟩, ⟨some 24, .fa 1
  (.t 23), none⟩, ⟨some 25, .fa 0 (.t 24), none⟩, ⟨none, .st 1 (.t 25) (.t 22), none⟩]) (.seq (.reg false [⟨some 26, .mov (.t 1), none⟩, ⟨some 27, .bin .add (.t
  26) (.k (.v false [.c (.i .i64 1)])), none⟩, ⟨some 1, .mov (.t 27), none⟩]) (.seq (.reg false [⟨some 28, .mov (.t 0), none⟩, ⟨some 29, .mov (.t 5), none⟩,
  ⟨some 30, .mov (.t 1), none⟩, ⟨some 31, .call 92 [.t 30], none⟩, ⟨some 32, .ia 3 (.t 28) (.t 29), none⟩, ⟨some 33, .fa 1 (.t 32), none⟩, ⟨some 34, .fa 1 (.t
  33), none⟩, ⟨none, .st 1 (.t 34) (.t 31), none⟩]) (.reg false [⟨some 35, .mov (.t 1), none⟩, ⟨some 36, .bin .add (.t 35) (.k (.v false [.c (.i .i64 1)])),
  none⟩, ⟨some 1, .mov (.t 36), none⟩]))))))) (.reg false [⟨some 10, .mov (.t 5), none⟩, ⟨some 11, .bin .add (.t 10) (.k (.v false [.c (.i .i64 1)])), none⟩,
  ⟨some 5, .mov (.t 11), none⟩])))))) (.seq (.reg false [⟨some 37, .mov (.t 1), none⟩, ⟨some 4, .mov (.t 37), none⟩]) .ret))
theorem hc_laws_markTermS : Tryz.f151.body.bind (comp Tryz.prog Tryz.f151.ntmps) = some ac_laws_markTermS := by kernel_rfl
theorem k_laws_markTermS (a : List GTerm) (k : Int) (hpre : 0 ≤ k ∧ k + 3 * (a.length : Nat) ≤ 4611686018427387904) : SpecO Tryz.prog 151 [(false, [.sl true [.s [], .i .i64 0, .s []] (a.map GTerm.cells)]), (false, [.i .i64 k])] [(0, (false, [.sl true [.s [], .i .i64 0, .s []] ((markLTerm a.length k).map GTerm.cells)]))] (.one (false, [.i .i64 (k + 3 * (a.length : Nat))])) := by
  refine spec_of2 true false (some 0) Tryz.func151 hc_laws_markTermS (rvs := [.t 4]) (hΓ := mkCtx_ok (deep := true) (l := [(92, [], c_laws_markText)]) ⟨c_laws_markText_ok, trivial⟩) (h := ?_)
  intro hb hE
  simp only [go_sem] at hb
  unfold ac_laws_markTermS
  (try refine AX_AW ?_); simp only [go_sem]; (repeat' first | apply CJ.mk | intro hc); all_goals try ((repeat' first | apply And.intro | intro hs) <;> (try simp only [go_sem, Bool.and_eq_false_iff] at hs) <;> omega)
  refine aw_loop2 true [] [0] [] [] (fun i : {p : Nat × (List GTerm) // p.1 ≤ a.length ∧ p.2.length = a.length ∧ p.2.take p.1 = (markLTerm a.length k).take p.1} => [(5, slV (.i .i64 i.1.1)), (1, slV (.i .i64 (k + 3 * (i.1.1 : Int))))]) (fun i => []) (fun i => [(1, [.s [], .i .i64 0, .s []], i.1.2.map GTerm.cells)]) (fun i => a.length - i.1.1) (⟨(0, a), by simp⟩) _ rfl ?_ ?_
  · simp only [go_sem]
    all_goals first | omega | ((repeat' apply And.intro) <;> first | omega | rfl | skip)
  intro S0 hS0 i
  simp only [go_sem] at hS0
  obtain ⟨⟨i, L⟩, hi, hl, ht⟩ := i
  simp only at hi hl ht
  by_cases hil : (i : Int) < L.length
  · have hgs : ∀ x, (L.set i x).getD i default = x := fun x => by rw [List.getD_eq_getElem?_getD, List.getElem?_set_self (by omega)]; rfl
    have hss : ∀ x y, (L.set i x).set i y = L.set i y := fun x y => List.set_set ..
    have hw0 : IntKind.i64.wrap (k + 3 * (i : Int) + 1) = k + 3 * (i : Int) + 1 := w64 (by omega) (by omega) (by omega)
    have hw1 : IntKind.i64.wrap (k + 3 * (i : Int) + 1 + 1) = k + 3 * (i : Int) + 2 := w64 (by omega) (by omega) (by omega)
    have hw2 : IntKind.i64.wrap (k + 3 * (i : Int) + 2 + 1) = k + 3 * (i : Int) + 3 := w64 (by omega) (by omega) (by omega)
    (try refine AX_AW ?_); simp only [go_sem, hS0, hgs, hss, hil, hw0, hw1, hw2]; (repeat' first | apply CJ.mk | intro hc); all_goals try ((repeat' first | apply And.intro | intro hs) <;> (try simp only [go_sem, Bool.and_eq_false_iff] at hs) <;> omega)
    (refine lpK_n2 (⟨(i + 1, L.set i (mark1Term (k + 3 * (i : Int)))), by simp only; omega, by simp [hl], by rw [← markLTerm_getD a.length k (show i < a.length by omega)]; exact take_set_succ (by rw [hl, markLTerm_len]) ht (by rw [markLTerm_len]; omega)⟩) _ rfl ?_; simp only [go_sem, hS0, hgs, hss, hil, hw0, hw1, hw2]; first | done | ((repeat' apply And.intro) <;> first | omega | (refine w64 ?_ ?_ ?_ <;> omega) | rfl | skip))
    · exact (hc trivial).elim
  · (try refine AX_AW ?_); simp only [go_sem, hS0, hil]; (repeat' first | apply CJ.mk | intro hc); all_goals try ((repeat' first | apply And.intro | intro hs) <;> (try simp only [go_sem, Bool.and_eq_false_iff] at hs) <;> omega)
    obtain rfl : i = a.length := by omega
    obtain rfl := eq_of_take (by rw [hl, markLTerm_len]) ht (by rw [markLTerm_len]; omega)
    exact ⟨rfl, rfl⟩
noncomputable def c_laws_markTermS : List V → Option (Prop × List (Nat × V) × R) := famP (fun (x : (List GTerm) × Int) h => k_laws_markTermS x.1 x.2 h)
@[go_sem] theorem c_laws_markTermS_eq (a : List GTerm) (k : Int) : c_laws_markTermS [(false, [.sl true [.s [], .i .i64 0, .s []] (a.map GTerm.cells)]), (false, [.i .i64 k])] = some (0 ≤ k ∧ k + 3 * (a.length : Nat) ≤ 4611686018427387904, [(0, (false, [.sl true [.s [], .i .i64 0, .s []] ((markLTerm a.length k).map GTerm.cells)]))], .one (false, [.i .i64 (k + 3 * (a.length : Nat))])) := famP_eq _ (by rintro ⟨_, _⟩ ⟨_, _⟩ h; simp at h; simp_all) (a, k)
theorem c_laws_markTermS_ok : ∀ vs q o r, c_laws_markTermS vs = some (q, o, r) → q → SpecO Tryz.prog 151 vs o r := famP_ok _
end Go.Aw
