/- Marked lists of numbers, texts, acts. No condition. -/
import Derived.Test.YtojlgbkikicklaaGreatzbM1
import Derived.Test.YtojlgbkikicklaaGreatfBwtzb
namespace Go.Aw
open Go.Proofs
attribute [local irreducible] aft blk lpK retK AW SpecO
set_option linter.unusedVariables false
set_option linter.unusedSimpArgs false
set_option maxRecDepth 100000
def mark1int (k : Int) : Int := k
def markLint (n : Nat) (k : Int) : List Int := (List.range n).map fun i : Nat => mark1int (k + 1 * (i : Int))
theorem markLint_len (n : Nat) (k : Int) : (markLint n k).length = n := by simp [markLint]
theorem markLint_getD (n : Nat) (k : Int) {i : Nat} (h : i < n) : (markLint n k).getD i 0 = mark1int (k + 1 * (i : Int)) := by
  rw [List.getD_eq_getElem?_getD, markLint, List.getElem?_map, List.getElem?_range h]
  rfl
def mark1str (k : Int) : (List UInt8) := (mtext k)
def markLstr (n : Nat) (k : Int) : List (List UInt8) := (List.range n).map fun i : Nat => mark1str (k + 1 * (i : Int))
theorem markLstr_len (n : Nat) (k : Int) : (markLstr n k).length = n := by simp [markLstr]
theorem markLstr_getD (n : Nat) (k : Int) {i : Nat} (h : i < n) : (markLstr n k).getD i [] = mark1str (k + 1 * (i : Int)) := by
  rw [List.getD_eq_getElem?_getD, markLstr, List.getElem?_map, List.getElem?_range h]
  rfl
def mark1Act (k : Int) : GAct := (GAct.mk k (k + 1) (k + 2))
def markLAct (n : Nat) (k : Int) : List GAct := (List.range n).map fun i : Nat => mark1Act (k + 3 * (i : Int))
theorem markLAct_len (n : Nat) (k : Int) : (markLAct n k).length = n := by simp [markLAct]
theorem markLAct_getD (n : Nat) (k : Int) {i : Nat} (h : i < n) : (markLAct n k).getD i default = mark1Act (k + 3 * (i : Int)) := by
  rw [List.getD_eq_getElem?_getD, markLAct, List.getElem?_map, List.getElem?_range h]
  rfl
def ac_laws_markIntS : ACode := .seq (.reg false [⟨some 4, .mov (.k (.v false [.c (.i .i64 0)])), none⟩]) (.seq (.seq (.reg false [⟨some 5, .mov (.k (.v false [.c (.i .i64 0)])), none⟩])
  (.block 0 (.loop (.seq (.seq (.reg false [⟨some 6, .mov (.t 5), none⟩, ⟨some 7, .mov (.t 0), none⟩, ⟨some 8, .len (.t 7), none⟩, ⟨some 9, .bin .lss (.t 6) (.t
  8), none⟩]) (.cond (.t 9) .skip (.exit 0))) (.seq (.block 1 (.seq (.reg false [⟨some 12, .mov (.t 0), none⟩, ⟨some 13, .mov (.t 5), none⟩, ⟨some 14, .mov (.t
  1), none⟩, ⟨some 15, .ia 1 (.t 12) (.t 13), none⟩, ⟨none, .st 1 (.t 15) (.t 14), none⟩]) (.reg false [⟨some 16, .mov (.t 1), none⟩, ⟨some 17, .bin .add (.t
  16) (.k (.v false [.c (.i .i64 1)])), none⟩, ⟨some 1, .mov (.t 17), none⟩]))) (.reg false [⟨some 10, .mov (.t 5), none⟩, ⟨some 11, .bin .add (.t 10) (.k (.v
  false [.c (.i .i64 1)])), none⟩, ⟨some 5, .mov (.t 11), none⟩])))))) (.seq (.reg false [⟨some 18, .mov (.t 1), none⟩, ⟨some 4, .mov (.t 18), none⟩]) .ret))
theorem hc_laws_markIntS : Tryz.f39.body.bind (comp Tryz.prog Tryz.f39.ntmps) = some ac_laws_markIntS := by kernel_rfl
theorem k_laws_markIntS (a : List Int) (k : Int) (hpre : 0 ≤ k ∧ k + 1 * (a.length : Nat) ≤ 4611686018427387904) : SpecO Tryz.prog 39 [(false, [.sl true [.i .i64 0] (a.map cInt)]), (false, [.i .i64 k])] [(0, (false, [.sl true [.i .i64 0] ((markLint a.length k).map cInt)]))] (.one (false, [.i .i64 (k + 1 * (a.length : Nat))])) := by
  refine spec_of2 true false (some 0) Tryz.func39 hc_laws_markIntS (rvs := [.t 4]) (hΓ := mkCtx_ok (deep := true) (l := []) trivial) (h := ?_)
  intro hb hE
  simp only [go_sem] at hb
  unfold ac_laws_markIntS
  (try refine AX_AW ?_); simp only [go_sem]; (repeat' first | apply CJ.mk | intro hc); all_goals try ((repeat' first | apply And.intro | intro hs) <;> (try simp only [go_sem, Bool.and_eq_false_iff] at hs) <;> omega)
  refine aw_loop2 true [] [0] [] [] (fun i : {p : Nat × (List Int) // p.1 ≤ a.length ∧ p.2.length = a.length ∧ p.2.take p.1 = (markLint a.length k).take p.1} => [(5, slV (.i .i64 i.1.1)), (1, slV (.i .i64 (k + 1 * (i.1.1 : Int))))]) (fun i => []) (fun i => [(1, [.i .i64 0], i.1.2.map cInt)]) (fun i => a.length - i.1.1) (⟨(0, a), by simp⟩) _ rfl ?_ ?_
  · simp only [go_sem]
    all_goals first | omega | ((repeat' apply And.intro) <;> first | omega | rfl | skip)
  intro S0 hS0 i
  simp only [go_sem] at hS0
  obtain ⟨⟨i, L⟩, hi, hl, ht⟩ := i
  simp only at hi hl ht
  by_cases hil : (i : Int) < L.length
  · have hgs : ∀ x, (L.set i x).getD i 0 = x := fun x => by rw [List.getD_eq_getElem?_getD, List.getElem?_set_self (by omega)]; rfl
    have hss : ∀ x y, (L.set i x).set i y = L.set i y := fun x y => List.set_set ..
    have hw0 : IntKind.i64.wrap (k + 1 * (i : Int) + 1) = k + 1 * (i : Int) + 1 := w64 (by omega) (by omega) (by omega)
    (try refine AX_AW ?_); simp only [go_sem, hS0, hgs, hss, hil, hw0]; (repeat' first | apply CJ.mk | intro hc); all_goals try ((repeat' first | apply And.intro | intro hs) <;> (try simp only [go_sem, Bool.and_eq_false_iff] at hs) <;> omega)
    (refine lpK_n2 (⟨(i + 1, L.set i (mark1int (k + 1 * (i : Int)))), by simp only; omega, by simp [hl], by rw [← markLint_getD a.length k (show i < a.length by omega)]; exact take_set_succ (by rw [hl, markLint_len]) ht (by rw [markLint_len]; omega)⟩) _ rfl ?_; simp only [go_sem, hS0, hgs, hss, hil, hw0]; first | done | ((repeat' apply And.intro) <;> first | omega | (refine w64 ?_ ?_ ?_ <;> omega) | rfl | skip))
    · exact (hc trivial).elim
  · (try refine AX_AW ?_); simp only [go_sem, hS0, hil]; (repeat' first | apply CJ.mk | intro hc); all_goals try ((repeat' first | apply And.intro | intro hs) <;> (try simp only [go_sem, Bool.and_eq_false_iff] at hs) <;> omega)
    obtain rfl : i = a.length := by omega
    obtain rfl := eq_of_take (by rw [hl, markLint_len]) ht (by rw [markLint_len]; omega)
    exact ⟨rfl, rfl⟩
noncomputable def c_laws_markIntS : List V → Option (Prop × List (Nat × V) × R) := famP (fun (x : (List Int) × Int) h => k_laws_markIntS x.1 x.2 h)
@[go_sem] theorem c_laws_markIntS_eq (a : List Int) (k : Int) : c_laws_markIntS [(false, [.sl true [.i .i64 0] (a.map cInt)]), (false, [.i .i64 k])] = some (0 ≤ k ∧ k + 1 * (a.length : Nat) ≤ 4611686018427387904, [(0, (false, [.sl true [.i .i64 0] ((markLint a.length k).map cInt)]))], .one (false, [.i .i64 (k + 1 * (a.length : Nat))])) := famP_eq _ (by rintro ⟨_, _⟩ ⟨_, _⟩ h; simp at h; simp_all) (a, k)
theorem c_laws_markIntS_ok : ∀ vs q o r, c_laws_markIntS vs = some (q, o, r) → q → SpecO Tryz.prog 39 vs o r := famP_ok _
def ac_laws_heldIntS : ACode := .seq (.reg false [⟨some 4, .mov (.k (.v false [.c (.i .i64 0)])), none⟩]) (.seq (.seq (.reg false [⟨some 5, .mov (.k (.v false [.c (.i .i64 0)])), none⟩])
  (.block 0 (.loop (.seq (.seq (.reg false [⟨some 6, .mov (.t 5), none⟩, ⟨some 7, .mov (.t 0), none⟩, ⟨some 8, .len (.t 7), none⟩, ⟨some 9, .bin .lss (.t 6) (.t
  8), none⟩]) (.cond (.t 9) .skip (.exit 0))) (.seq (.block 1 (.seq (.seq (.reg false [⟨some 12, .mov (.t 0), none⟩, ⟨some 13, .mov (.t 5), none⟩, ⟨some 14, .ia
  1 (.t 12) (.t 13), none⟩, ⟨some 15, .ld false 1 (.t 14), none⟩, ⟨some 16, .mov (.t 1), none⟩, ⟨some 17, .bin .neq (.t 15) (.t 16), none⟩]) (.cond (.t 17)
  (.seq (.reg false [⟨some 4, .mov (.k (.v false [.c (.i .i64 (-1))])), none⟩]) .ret) .skip)) (.reg false [⟨some 18, .mov (.t 1), none⟩, ⟨some 19, .bin .add (.t
  18) (.k (.v false [.c (.i .i64 1)])), none⟩, ⟨some 1, .mov (.t 19), none⟩]))) (.reg false [⟨some 10, .mov (.t 5), none⟩, ⟨some 11, .bin .add (.t 10) (.k (.v
  false [.c (.i .i64 1)])), none⟩, ⟨some 5, .mov (.t 11), none⟩])))))) (.seq (.reg false [⟨some 20, .mov (.t 1), none⟩, ⟨some 4, .mov (.t 20), none⟩]) .ret))
theorem hc_laws_heldIntS : Tryz.f40.body.bind (comp Tryz.prog Tryz.f40.ntmps) = some ac_laws_heldIntS := by kernel_rfl
theorem k_laws_heldIntS (a : List Int) (k : Int) (hpre : (0 ≤ k ∧ k + 1 * (a.length : Nat) ≤ 4611686018427387904) ∧ a = markLint a.length k) : SpecO Tryz.prog 40 [(false, [.sl false [.i .i64 0] (a.map cInt)]), (false, [.i .i64 k])] [] (.one (false, [.i .i64 (k + 1 * (a.length : Nat))])) := by
  refine spec_of2 false false none Tryz.func40 hc_laws_heldIntS (rvs := [.t 4]) (hΓ := mkCtx_ok (deep := false) (l := []) trivial) (h := ?_)
  intro hb hE
  simp only [go_sem] at hb
  unfold ac_laws_heldIntS
  (try refine AX_AW ?_); simp only [go_sem]; (repeat' first | apply CJ.mk | intro hc); all_goals try ((repeat' first | apply And.intro | intro hs) <;> (try simp only [go_sem, Bool.and_eq_false_iff] at hs) <;> omega)
  refine aw_loop2 false [] [0] [] [] (fun i : {i : Nat // i ≤ a.length} => [(5, slV (.i .i64 i.1)), (1, slV (.i .i64 (k + 1 * (i.1 : Int))))]) (fun i => []) (fun i => []) (fun i => a.length - i.1) (⟨0, by omega⟩) _ rfl ?_ ?_
  · simp only [go_sem]
    all_goals first | omega | ((repeat' apply And.intro) <;> first | omega | rfl | skip)
  intro S0 hS0 i
  simp only [go_sem] at hS0
  obtain ⟨i, hi⟩ := i
  by_cases hil : (i : Int) < a.length
  · have hx : a.getD i 0 = mark1int (k + 1 * (i : Int)) := by rw [hpre.2]; exact markLint_getD _ _ (by omega)
    have hw0 : IntKind.i64.wrap (k + 1 * (i : Int) + 1) = k + 1 * (i : Int) + 1 := w64 (by omega) (by omega) (by omega)
    (try refine AX_AW ?_); simp only [go_sem, hS0, hil, hx, mark1int, hw0]; (repeat' first | apply CJ.mk | intro hc); all_goals try ((repeat' first | apply And.intro | intro hs) <;> (try simp only [go_sem, Bool.and_eq_false_iff] at hs) <;> omega)
    all_goals first
      | (exfalso; simp at hc; done)
      | ((refine lpK_n2 (⟨i + 1, by omega⟩) _ rfl ?_; simp only [go_sem, hS0, hil, hx, mark1int, hw0]; first | done | ((repeat' apply And.intro) <;> first | omega | (refine w64 ?_ ?_ ?_ <;> omega) | rfl | skip)); done)
      | trace_state
  · (try refine AX_AW ?_); simp only [go_sem, hS0, hil]; (repeat' first | apply CJ.mk | intro hc); all_goals try ((repeat' first | apply And.intro | intro hs) <;> (try simp only [go_sem, Bool.and_eq_false_iff] at hs) <;> omega)
    all_goals (obtain rfl : i = a.length := by omega)
    all_goals rfl
noncomputable def c_laws_heldIntS : List V → Option (Prop × List (Nat × V) × R) := famP (fun (x : (List Int) × Int) h => k_laws_heldIntS x.1 x.2 h)
@[go_sem] theorem c_laws_heldIntS_eq (a : List Int) (k : Int) : c_laws_heldIntS [(false, [.sl false [.i .i64 0] (a.map cInt)]), (false, [.i .i64 k])] = some ((0 ≤ k ∧ k + 1 * (a.length : Nat) ≤ 4611686018427387904) ∧ a = markLint a.length k, [], .one (false, [.i .i64 (k + 1 * (a.length : Nat))])) := famP_eq _ (by rintro ⟨_, _⟩ ⟨_, _⟩ h; simp at h; simp_all) (a, k)
theorem c_laws_heldIntS_ok : ∀ vs q o r, c_laws_heldIntS vs = some (q, o, r) → q → SpecO Tryz.prog 40 vs o r := famP_ok _
end Go.Aw
