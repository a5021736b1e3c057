/- Marked programs, states. No condition. -/
import Derived.Test.YtojlgbkikicklaaGreatzbM4
namespace Go.Aw
open Go.Proofs
attribute [local irreducible] aft blk lpK retK AW SpecO
set_option linter.unusedVariables false
set_option linter.unusedSimpArgs false
set_option maxRecDepth 100000
set_option maxHeartbeats 4000000
def mark1Decl (k : Int) : GDecl := (GDecl.mk k (mtext (k + 1)) (k + 2))
def markLDecl (n : Nat) (k : Int) : List GDecl := (List.range n).map fun i : Nat => mark1Decl (k + 3 * (i : Int))
theorem markLDecl_len (n : Nat) (k : Int) : (markLDecl n k).length = n := by simp [markLDecl]
theorem markLDecl_getD (n : Nat) (k : Int) {i : Nat} (h : i < n) : (markLDecl n k).getD i default = mark1Decl (k + 3 * (i : Int)) := by
  rw [List.getD_eq_getElem?_getD, markLDecl, List.getElem?_map, List.getElem?_range h]
  rfl
def cntRule (x : GRule) : Nat := 2 + 3 * x.Head.Args.length + tots cntLit x.Body
def mark1Rule (x : GRule) (k : Int) : GRule := GRule.mk k (GAtom.mk (mtext (k + 1)) (markLTerm x.Head.Args.length (k + 2))) (mkL mark1Lit cntLit x.Body ((k + 2) + 3 * (x.Head.Args.length : Nat)))
def cntRow (x : GRow) : Nat := 2 * x.V.length
def mark1Row (x : GRow) (k : Int) : GRow := GRow.mk (markLValue x.V.length k)
def cntNamed (x : GNamed) : Nat := 2 + tots cntRow x.Rel.Rows
def mark1Named (x : GNamed) (k : Int) : GNamed := GNamed.mk (mtext k) (GRel.mk (k + 1) (mkL mark1Row cntRow x.Rel.Rows (k + 2)))
def ac_laws_markDeclS : ACode := .seq (.reg false [⟨some 4, .mov (.k (.v false [.c (.i .i64 0)])), none⟩]) (.seq (.seq (.reg false [⟨some 5, .mov (.k (.v false [.c (.i .i64 0)])), none⟩])
  (.block 0 (.loop (.seq (.seq (.reg false [⟨some 6, .mov (.t 5), none⟩, ⟨some 7, .mov (.t 0), none⟩, ⟨some 8, .len (.t 7), none⟩, ⟨some 9, .bin .lss (.t 6) (.t
  8), none⟩]) (.cond (.t 9) .skip (.exit 0))) (.seq (.block 1 (.seq (.reg false [⟨some 12, .mov (.t 0), none⟩, ⟨some 13, .mov (.t 5), none⟩, ⟨some 14, .mov (.t
  1), none⟩, ⟨some 15, .ia 3 (.t 12) (.t 13), none⟩, ⟨some 16, .fa 0 (.t 15), none⟩, ⟨none, .st 1 (.t 16) (.t 14), none⟩]) (.seq (.reg false [⟨some 17, .mov (.t
  1), none⟩, ⟨some 18, .bin .add (.t 17) (.k (.v false [.c (.i .i64 1)])), none⟩, ⟨some 1, .mov (.t 18), none⟩]) (.seq (.reg false [⟨some 19, .mov (.t 0),
  none⟩, ⟨some 20, .mov (.t 5), none⟩, ⟨some 21, .mov (.t 1), none⟩, ⟨some 22, .call 92 [.t 21], none⟩, ⟨some 23, .ia 3 (.t 19) (.t 20), none⟩, ⟨some 24, .fa 1
  (.t 23), none⟩, ⟨none, .st 1 (.t 24) (.t 22), none⟩]) (.seq (.reg false [⟨some 25, .mov (.t 1), none⟩, ⟨some 26, .bin .add (.t 25) (.k (.v false [.c (.i .i64
  1)])), none⟩, ⟨some 1, .mov (.t 26), none⟩]) (.seq (.reg false [⟨some 27, .mov (.t 0), none⟩, ⟨some 28, .mov (.t 5), none⟩, ⟨some 29, .mov (.t 1), none⟩,
  ⟨some 30, .ia 3 (.t 27) (.t 28), none⟩, ⟨some 31, .fa 2 (.t 30), none⟩, ⟨none, .st 1 (.t 31) (.t 29), none⟩]) (.reg false [⟨some 32, .mov (.t 1), none⟩, ⟨some
  33, .bin .add (.t 32) (.k (.v false [.c (.i .i64 1)])), none⟩, ⟨some 1, .mov (.t 33), none⟩]))))))) (.reg false [⟨some 10, .mov (.t 5), none⟩, ⟨some 11, .bin
  .add (.t 10) (.k (.v false [.c (.i .i64 1)])), none⟩, ⟨some 5, .mov (.t 11), none⟩])))))) (.seq (.reg false [⟨some 34, .mov (.t 1), none⟩, ⟨some 4, .mov (.t
  34), none⟩]) .ret))
theorem hc_laws_markDeclS : Tryz.f79.body.bind (comp Tryz.prog Tryz.f79.ntmps) = some ac_laws_markDeclS := by kernel_rfl
theorem k_laws_markDeclS (a : List GDecl) (k : Int) (hpre : 0 ≤ k ∧ k + 3 * (a.length : Nat) ≤ 4611686018427387904) : SpecO Tryz.prog 79 [(false, [.sl true [.i .i64 0, .s [], .i .i64 0] (a.map GDecl.cells)]), (false, [.i .i64 k])] [(0, (false, [.sl true [.i .i64 0, .s [], .i .i64 0] ((markLDecl a.length k).map GDecl.cells)]))] (.one (false, [.i .i64 (k + 3 * (a.length : Nat))])) := by
  refine spec_of2 true false (some 0) Tryz.func79 hc_laws_markDeclS (rvs := [.t 4]) (hΓ := mkCtx_ok (deep := true) (l := [(92, [], c_laws_markText)]) ⟨c_laws_markText_ok, trivial⟩) (h := ?_)
  intro hb hE
  simp only [go_sem] at hb
  unfold ac_laws_markDeclS
  (try refine AX_AW ?_); simp only [go_sem]; (repeat' first | apply CJ.mk | intro hc); all_goals try ((repeat' first | apply And.intro | intro hs) <;> (try simp only [go_sem, Bool.and_eq_false_iff] at hs) <;> omega)
  refine aw_loop2 true [] [0] [] [] (fun i : {p : Nat × (List GDecl) // p.1 ≤ a.length ∧ p.2.length = a.length ∧ p.2.take p.1 = (markLDecl a.length k).take p.1} => [(5, slV (.i .i64 i.1.1)), (1, slV (.i .i64 (k + 3 * (i.1.1 : Int))))]) (fun i => []) (fun i => [(1, [.i .i64 0, .s [], .i .i64 0], i.1.2.map GDecl.cells)]) (fun i => a.length - i.1.1) (⟨(0, a), by simp⟩) _ rfl ?_ ?_
  · simp only [go_sem]
    all_goals first | omega | ((repeat' apply And.intro) <;> first | omega | rfl | skip)
  intro S0 hS0 i
  simp only [go_sem] at hS0
  obtain ⟨⟨i, L⟩, hi, hl, ht⟩ := i
  simp only at hi hl ht
  by_cases hil : (i : Int) < L.length
  · have hgs : ∀ x, (L.set i x).getD i default = x := fun x => by rw [List.getD_eq_getElem?_getD, List.getElem?_set_self (by omega)]; rfl
    have hss : ∀ x y, (L.set i x).set i y = L.set i y := fun x y => List.set_set ..
    have hw0 : IntKind.i64.wrap (k + 3 * (i : Int) + 1) = k + 3 * (i : Int) + 1 := w64 (by omega) (by omega) (by omega)
    have hw1 : IntKind.i64.wrap (k + 3 * (i : Int) + 1 + 1) = k + 3 * (i : Int) + 2 := w64 (by omega) (by omega) (by omega)
    have hw2 : IntKind.i64.wrap (k + 3 * (i : Int) + 2 + 1) = k + 3 * (i : Int) + 3 := w64 (by omega) (by omega) (by omega)
    (try refine AX_AW ?_); simp only [go_sem, hS0, hgs, hss, hil, hw0, hw1, hw2]; (repeat' first | apply CJ.mk | intro hc); all_goals try ((repeat' first | apply And.intro | intro hs) <;> (try simp only [go_sem, Bool.and_eq_false_iff] at hs) <;> omega)
    (refine lpK_n2 (⟨(i + 1, L.set i (mark1Decl (k + 3 * (i : Int)))), by simp only; omega, by simp [hl], by rw [← markLDecl_getD a.length k (show i < a.length by omega)]; exact take_set_succ (by rw [hl, markLDecl_len]) ht (by rw [markLDecl_len]; omega)⟩) _ rfl ?_; simp only [go_sem, hS0, hgs, hss, hil, hw0, hw1, hw2]; first | done | ((repeat' apply And.intro) <;> first | omega | (refine w64 ?_ ?_ ?_ <;> omega) | rfl | skip))
    · exact (hc trivial).elim
  · (try refine AX_AW ?_); simp only [go_sem, hS0, hil]; (repeat' first | apply CJ.mk | intro hc); all_goals try ((repeat' first | apply And.intro | intro hs) <;> (try simp only [go_sem, Bool.and_eq_false_iff] at hs) <;> omega)
    obtain rfl : i = a.length := by omega
    obtain rfl := eq_of_take (by rw [hl, markLDecl_len]) ht (by rw [markLDecl_len]; omega)
    exact ⟨rfl, rfl⟩
noncomputable def c_laws_markDeclS : List V → Option (Prop × List (Nat × V) × R) := famP (fun (x : (List GDecl) × Int) h => k_laws_markDeclS x.1 x.2 h)
@[go_sem] theorem c_laws_markDeclS_eq (a : List GDecl) (k : Int) : c_laws_markDeclS [(false, [.sl true [.i .i64 0, .s [], .i .i64 0] (a.map GDecl.cells)]), (false, [.i .i64 k])] = some (0 ≤ k ∧ k + 3 * (a.length : Nat) ≤ 4611686018427387904, [(0, (false, [.sl true [.i .i64 0, .s [], .i .i64 0] ((markLDecl a.length k).map GDecl.cells)]))], .one (false, [.i .i64 (k + 3 * (a.length : Nat))])) := famP_eq _ (by rintro ⟨_, _⟩ ⟨_, _⟩ h; simp at h; simp_all) (a, k)
theorem c_laws_markDeclS_ok : ∀ vs q o r, c_laws_markDeclS vs = some (q, o, r) → q → SpecO Tryz.prog 79 vs o r := famP_ok _
def ac_laws_markRuleS : ACode := .seq (.reg false [⟨some 4, .mov (.k (.v false [.c (.i .i64 0)])), none⟩]) (.seq (.seq (.reg false [⟨some 5, .mov (.k (.v false [.c (.i .i64 0)])), none⟩])
  (.block 0 (.loop (.seq (.seq (.reg false [⟨some 6, .mov (.t 5), none⟩, ⟨some 7, .mov (.t 0), none⟩, ⟨some 8, .len (.t 7), none⟩, ⟨some 9, .bin .lss (.t 6) (.t
  8), none⟩]) (.cond (.t 9) .skip (.exit 0))) (.seq (.block 1 (.seq (.reg false [⟨some 12, .mov (.t 0), none⟩, ⟨some 13, .mov (.t 5), none⟩, ⟨some 14, .mov (.t
  1), none⟩, ⟨some 15, .ia 4 (.t 12) (.t 13), none⟩, ⟨some 16, .fa 0 (.t 15), none⟩, ⟨none, .st 1 (.t 16) (.t 14), none⟩]) (.seq (.reg false [⟨some 17, .mov (.t
  1), none⟩, ⟨some 18, .bin .add (.t 17) (.k (.v false [.c (.i .i64 1)])), none⟩, ⟨some 1, .mov (.t 18), none⟩]) (.seq (.reg false [⟨some 19, .mov (.t 0),
  none⟩, ⟨some 20, .mov (.t 5), none⟩, ⟨some 21, .mov (.t 1), none⟩, ⟨some 22, .call 92 [.t 21], none⟩, ⟨some 23, .ia 4 (.t 19) (.t 20), none⟩, ⟨some 24, .fa 1
  (.t 23), none⟩, ⟨some 25, .fa 0 (.t 24), none⟩, ⟨none, .st 1 (.t 25) (.t 22), none⟩]) (.seq (.reg false [⟨some 26, .mov (.t 1), none⟩, ⟨some 27, .bin .add (.t
  26) (.k (.v false [.c (.i .i64 1)])), none⟩, ⟨some 1, .mov (.t 27), none⟩]) (.seq (.reg false [⟨some 28, .mov (.t 0), none⟩, ⟨some 29, .mov (.t 5), none⟩,
  ⟨some 30, .ia 4 (.t 28) (.t 29), none⟩, ⟨some 31, .fa 1 (.t 30), none⟩, ⟨some 32, .fa 1 (.t 31), none⟩, ⟨some 33, .ld false 1 (.t 32), none⟩, ⟨some 34, .mov
  (.t 1), none⟩, ⟨some 35, .call 151 [.t 33, .t 34], none⟩, ⟨some 1, .mov (.t 35), none⟩]) (.reg false [⟨some 36, .mov (.t 0), none⟩, ⟨some 37, .mov (.t 5),
  none⟩, ⟨some 38, .ia 4 (.t 36) (.t 37), none⟩, ⟨some 39, .fa 3 (.t 38), none⟩, ⟨some 40, .ld false 1 (.t 39), none⟩, ⟨some 41, .mov (.t 1), none⟩, ⟨some 42,
  .call 152 [.t 40, .t 41], none⟩, ⟨some 1, .mov (.t 42), none⟩]))))))) (.reg false [⟨some 10, .mov (.t 5), none⟩, ⟨some 11, .bin .add (.t 10) (.k (.v false [.c
  (.i .i64 1)])), none⟩, ⟨some 5, .mov (.t 11), none⟩])))))) (.seq (.reg false [⟨some 43, .mov (.t 1), none⟩, ⟨some 4, .mov (.t 43), none⟩]) .ret))
theorem hc_laws_markRuleS : Tryz.f80.body.bind (comp Tryz.prog Tryz.f80.ntmps) = some ac_laws_markRuleS := by kernel_rfl
theorem k_laws_markRuleS (a : List GRule) (k : Int) (hpre : 0 ≤ k ∧ k + (tots cntRule a : Nat) ≤ 4611686018427387904) : SpecO Tryz.prog 80 [(false, [.sl true [.i .i64 0, .s [], .sl true [.s [], .i .i64 0, .s []] [], .sl true [.i .i64 0, .s [], .sl true [.s [], .i .i64 0, .s []] [], .i .i64 0, .s [], .i .i64 0, .s [], .s [], .i .i64 0, .s []] []] (a.map (GRule.cells true true))]), (false, [.i .i64 k])] [(0, (false, [.sl true [.i .i64 0, .s [], .sl true [.s [], .i .i64 0, .s []] [], .sl true [.i .i64 0, .s [], .sl true [.s [], .i .i64 0, .s []] [], .i .i64 0, .s [], .i .i64 0, .s [], .s [], .i .i64 0, .s []] []] ((mkL mark1Rule cntRule a k).map (GRule.cells true true))]))] (.one (false, [.i .i64 (k + (tots cntRule a : Nat))])) := by
  refine spec_of2 true false (some 0) Tryz.func80 hc_laws_markRuleS (rvs := [.t 4]) (hΓ := mkCtx_ok (deep := true) (l := [(92, [], c_laws_markText), (151, [0], c_laws_markTermS), (152, [0], c_laws_markLitS)]) ⟨c_laws_markText_ok, c_laws_markTermS_ok, c_laws_markLitS_ok, trivial⟩) (h := ?_)
  intro hb hE
  simp only [go_sem] at hb
  unfold ac_laws_markRuleS
  (try refine AX_AW ?_); simp only [go_sem]; (repeat' first | apply CJ.mk | intro hc); all_goals try ((repeat' first | apply And.intro | intro hs) <;> (try simp only [go_sem, Bool.and_eq_false_iff] at hs) <;> omega)
  refine aw_loop2 true [] [0] [] [] (fun i : {p : Nat × List GRule // p.1 ≤ a.length ∧ p.2 = mkL mark1Rule cntRule (a.take p.1) k ++ a.drop p.1} => [(5, slV (.i .i64 i.1.1)), (1, slV (.i .i64 (k + (tots cntRule (a.take i.1.1) : Nat))))]) (fun i => []) (fun i => [(1, [.i .i64 0, .s [], .sl true [.s [], .i .i64 0, .s []] [], .sl true [.i .i64 0, .s [], .sl true [.s [], .i .i64 0, .s []] [], .i .i64 0, .s [], .i .i64 0, .s [], .s [], .i .i64 0, .s []] []], i.1.2.map (GRule.cells true true))]) (fun i => a.length - i.1.1) (⟨(0, a), by simp [mkL]⟩) _ rfl ?_ ?_
  · simp only [go_sem]
    all_goals first | omega | ((repeat' apply And.intro) <;> first | omega | rfl | skip)
  intro S0 hS0 i
  simp only [go_sem] at hS0
  obtain ⟨⟨i, L⟩, hi, hL⟩ := i
  simp only at hi hL
  have hl : L.length = a.length := by rw [hL]; exact mkL_len mark1Rule cntRule a k i
  by_cases hil : (i : Int) < L.length
  · have hgs : ∀ x, (L.set i x).getD i default = x := fun x => by rw [List.getD_eq_getElem?_getD, List.getElem?_set_self (by omega)]; rfl
    have hss : ∀ x y, (L.set i x).set i y = L.set i y := fun x y => List.set_set ..
    have hg2 : ∀ x, ((L.map (GRule.cells true true)).set i x).getD i [.i .i64 0, .s [], .sl true [.s [], .i .i64 0, .s []] [], .sl true [.i .i64 0, .s [], .sl true [.s [], .i .i64 0, .s []] [], .i .i64 0, .s [], .i .i64 0, .s [], .s [], .i .i64 0, .s []] []] = x := fun x => by rw [List.getD_eq_getElem?_getD, List.getElem?_set_self (by rw [List.length_map]; omega)]; rfl
    have hs2 : ∀ x z, ((L.map (GRule.cells true true)).set i x).set i z = (L.map (GRule.cells true true)).set i z := fun x z => List.set_set ..
    have hg3 : ∀ y x, (((L.set i y).map (GRule.cells true true)).set i x).getD i [.i .i64 0, .s [], .sl true [.s [], .i .i64 0, .s []] [], .sl true [.i .i64 0, .s [], .sl true [.s [], .i .i64 0, .s []] [], .i .i64 0, .s [], .i .i64 0, .s [], .s [], .i .i64 0, .s []] []] = x := fun y x => by rw [List.getD_eq_getElem?_getD, List.getElem?_set_self (by rw [List.length_map, List.length_set]; omega)]; rfl
    have hs3 : ∀ y x z, (((L.set i y).map (GRule.cells true true)).set i x).set i z = ((L.set i y).map (GRule.cells true true)).set i z := fun y x z => List.set_set ..
    have hx : L.getD i default = a.getD i default := by rw [hL]; exact mkL_get mark1Rule cntRule default k (by omega)
    have ht := tots_take_succ cntRule default (show i < a.length by omega)
    have ht2 := tots_take_le cntRule a (i + 1)
    simp only [cntRule] at ht
    have hw0 : IntKind.i64.wrap ((k + (tots cntRule (a.take i) : Nat)) + 1) = ((k + (tots cntRule (a.take i) : Nat)) + 1) := w64 (by omega) (by omega) (by omega)
    have hw1 : IntKind.i64.wrap (((k + (tots cntRule (a.take i) : Nat)) + 1) + 1) = ((k + (tots cntRule (a.take i) : Nat)) + 2) := w64 (by omega) (by omega) (by omega)
    (try refine AX_AW ?_); simp only [go_sem, hS0, hgs, hss, hx, hil, hg2, hs2, hg3, hs3, hw0, hw1]; (repeat' first | apply CJ.mk | intro hc); all_goals try ((repeat' first | apply And.intro | intro hs) <;> (try simp only [go_sem, Bool.and_eq_false_iff] at hs) <;> omega)
    all_goals first
      | omega
      | (exact (hc trivial).elim)
      | ((refine lpK_n2 (⟨(i + 1, L.set i (mark1Rule (a.getD i default) (k + (tots cntRule (a.take i) : Nat)))), by simp only; omega, by rw [hL]; exact mkL_set mark1Rule cntRule default k (by omega)⟩) _ rfl ?_; simp only [go_sem, hS0, hgs, hss, hx, hil, hg2, hs2, hg3, hs3, hw0, hw1]; first | done | ((repeat' apply And.intro) <;> first | omega | (refine w64 ?_ ?_ ?_ <;> omega) | rfl | skip)); first | done | (simp only [ht]; omega) | trace_state)
      | trace_state
  · (try refine AX_AW ?_); simp only [go_sem, hS0, hil]; (repeat' first | apply CJ.mk | intro hc); all_goals try ((repeat' first | apply And.intro | intro hs) <;> (try simp only [go_sem, Bool.and_eq_false_iff] at hs) <;> omega)
    have h1 := tots_all cntRule (show ¬ i < a.length by omega)
    rw [List.take_of_length_le (by omega), List.drop_eq_nil_of_le (by omega), List.append_nil] at hL
    all_goals first | exact ⟨by rw [h1], by rw [hL]⟩ | trace_state
noncomputable def c_laws_markRuleS : List V → Option (Prop × List (Nat × V) × R) := famP (fun (x : (List GRule) × Int) h => k_laws_markRuleS x.1 x.2 h)
@[go_sem] theorem c_laws_markRuleS_eq (a : List GRule) (k : Int) : c_laws_markRuleS [(false, [.sl true [.i .i64 0, .s [], .sl true [.s [], .i .i64 0, .s []] [], .sl true [.i .i64 0, .s [], .sl true [.s [], .i .i64 0, .s []] [], .i .i64 0, .s [], .i .i64 0, .s [], .s [], .i .i64 0, .s []] []] (a.map (GRule.cells true true))]), (false, [.i .i64 k])] = some (0 ≤ k ∧ k + (tots cntRule a : Nat) ≤ 4611686018427387904, [(0, (false, [.sl true [.i .i64 0, .s [], .sl true [.s [], .i .i64 0, .s []] [], .sl true [.i .i64 0, .s [], .sl true [.s [], .i .i64 0, .s []] [], .i .i64 0, .s [], .i .i64 0, .s [], .s [], .i .i64 0, .s []] []] ((mkL mark1Rule cntRule a k).map (GRule.cells true true))]))], .one (false, [.i .i64 (k + (tots cntRule a : Nat))])) := famP_eq _ (by rintro ⟨_, _⟩ ⟨_, _⟩ h; simp at h; simp_all) (a, k)
theorem c_laws_markRuleS_ok : ∀ vs q o r, c_laws_markRuleS vs = some (q, o, r) → q → SpecO Tryz.prog 80 vs o r := famP_ok _
def ac_laws_markProgram : ACode := .seq (.reg false [⟨some 2, .box 2 (.t 0), none⟩, ⟨some 4, .mov (.k (.v false [.c (.i .i64 0)])), none⟩]) (.seq (.reg false [⟨some 5, .fa 0 (.t 2), none⟩, ⟨some
  6, .ld false 1 (.t 5), none⟩, ⟨some 7, .mov (.t 1), none⟩, ⟨some 8, .call 79 [.t 6, .t 7], none⟩, ⟨some 1, .mov (.t 8), none⟩]) (.seq (.reg false [⟨some 9,
  .fa 1 (.t 2), none⟩, ⟨some 10, .ld false 1 (.t 9), none⟩, ⟨some 11, .mov (.t 1), none⟩, ⟨some 12, .call 80 [.t 10, .t 11], none⟩, ⟨some 1, .mov (.t 12),
  none⟩]) (.seq (.reg false [⟨some 13, .mov (.t 1), none⟩, ⟨some 4, .mov (.t 13), none⟩]) .ret)))
theorem hc_laws_markProgram : Tryz.f23.body.bind (comp Tryz.prog Tryz.f23.ntmps) = some ac_laws_markProgram := by kernel_rfl
theorem k_laws_markProgram (a : GProgram) (k : Int) (hpre : 0 ≤ k ∧ ((k + 3 * (a.Decls.length : Nat)) + (tots cntRule a.Rules : Nat)) ≤ 4611686018427387904) : SpecO Tryz.prog 23 [(true, [.sl true [.i .i64 0, .s [], .i .i64 0] (a.Decls.map GDecl.cells), .sl true [.i .i64 0, .s [], .sl true [.s [], .i .i64 0, .s []] [], .sl true [.i .i64 0, .s [], .sl true [.s [], .i .i64 0, .s []] [], .i .i64 0, .s [], .i .i64 0, .s [], .s [], .i .i64 0, .s []] []] (a.Rules.map (GRule.cells true true))]), (false, [.i .i64 k])] [(0, (true, [.sl true [.i .i64 0, .s [], .i .i64 0] (((GProgram.mk (markLDecl a.Decls.length k) (mkL mark1Rule cntRule a.Rules (k + 3 * (a.Decls.length : Nat)))).Decls).map GDecl.cells), .sl true [.i .i64 0, .s [], .sl true [.s [], .i .i64 0, .s []] [], .sl true [.i .i64 0, .s [], .sl true [.s [], .i .i64 0, .s []] [], .i .i64 0, .s [], .i .i64 0, .s [], .s [], .i .i64 0, .s []] []] (((GProgram.mk (markLDecl a.Decls.length k) (mkL mark1Rule cntRule a.Rules (k + 3 * (a.Decls.length : Nat)))).Rules).map (GRule.cells true true))]))] (.one (false, [.i .i64 ((k + 3 * (a.Decls.length : Nat)) + (tots cntRule a.Rules : Nat))])) := by
  refine spec_of2 true false (some 0) Tryz.func23 hc_laws_markProgram (rvs := [.t 4]) (hΓ := mkCtx_ok (deep := true) (l := [(79, [0], c_laws_markDeclS), (80, [0], c_laws_markRuleS)]) ⟨c_laws_markDeclS_ok, c_laws_markRuleS_ok, trivial⟩) (h := ?_)
  intro hb hE
  simp only [go_sem] at hb
  unfold ac_laws_markProgram
  (try refine AX_AW ?_); simp only [go_sem]; (repeat' first | apply CJ.mk | intro hc); all_goals try ((repeat' first | apply And.intro | intro hs) <;> (try simp only [go_sem, Bool.and_eq_false_iff] at hs) <;> omega)
  all_goals first | omega | trace_state
noncomputable def c_laws_markProgram : List V → Option (Prop × List (Nat × V) × R) := famP (fun (x : GProgram × Int) h => k_laws_markProgram x.1 x.2 h)
@[go_sem] theorem c_laws_markProgram_eq (a_Decls : List GDecl) (a_Rules : List GRule) (k : Int) : c_laws_markProgram [(true, [.sl true [.i .i64 0, .s [], .i .i64 0] (a_Decls.map GDecl.cells), .sl true [.i .i64 0, .s [], .sl true [.s [], .i .i64 0, .s []] [], .sl true [.i .i64 0, .s [], .sl true [.s [], .i .i64 0, .s []] [], .i .i64 0, .s [], .i .i64 0, .s [], .s [], .i .i64 0, .s []] []] (a_Rules.map (GRule.cells true true))]), (false, [.i .i64 k])] = some (0 ≤ k ∧ ((k + 3 * ((GProgram.mk a_Decls a_Rules).Decls.length : Nat)) + (tots cntRule (GProgram.mk a_Decls a_Rules).Rules : Nat)) ≤ 4611686018427387904, [(0, (true, [.sl true [.i .i64 0, .s [], .i .i64 0] (((GProgram.mk (markLDecl (GProgram.mk a_Decls a_Rules).Decls.length k) (mkL mark1Rule cntRule (GProgram.mk a_Decls a_Rules).Rules (k + 3 * ((GProgram.mk a_Decls a_Rules).Decls.length : Nat)))).Decls).map GDecl.cells), .sl true [.i .i64 0, .s [], .sl true [.s [], .i .i64 0, .s []] [], .sl true [.i .i64 0, .s [], .sl true [.s [], .i .i64 0, .s []] [], .i .i64 0, .s [], .i .i64 0, .s [], .s [], .i .i64 0, .s []] []] (((GProgram.mk (markLDecl (GProgram.mk a_Decls a_Rules).Decls.length k) (mkL mark1Rule cntRule (GProgram.mk a_Decls a_Rules).Rules (k + 3 * ((GProgram.mk a_Decls a_Rules).Decls.length : Nat)))).Rules).map (GRule.cells true true))]))], .one (false, [.i .i64 ((k + 3 * ((GProgram.mk a_Decls a_Rules).Decls.length : Nat)) + (tots cntRule (GProgram.mk a_Decls a_Rules).Rules : Nat))])) := famP_eq _ (by rintro ⟨⟨_, _⟩, _⟩ ⟨⟨_, _⟩, _⟩ h; simp at h; simp_all) ((GProgram.mk a_Decls a_Rules), k)
theorem c_laws_markProgram_ok : ∀ vs q o r, c_laws_markProgram vs = some (q, o, r) → q → SpecO Tryz.prog 23 vs o r := famP_ok _
def ac_laws_markRowS : ACode := .seq (.reg false [⟨some 4, .mov (.k (.v false [.c (.i .i64 0)])), none⟩]) (.seq (.seq (.reg false [⟨some 5, .mov (.k (.v false [.c (.i .i64 0)])), none⟩])
  (.block 0 (.loop (.seq (.seq (.reg false [⟨some 6, .mov (.t 5), none⟩, ⟨some 7, .mov (.t 0), none⟩, ⟨some 8, .len (.t 7), none⟩, ⟨some 9, .bin .lss (.t 6) (.t
  8), none⟩]) (.cond (.t 9) .skip (.exit 0))) (.seq (.block 1 (.reg false [⟨some 12, .mov (.t 0), none⟩, ⟨some 13, .mov (.t 5), none⟩, ⟨some 14, .ia 1 (.t 12)
  (.t 13), none⟩, ⟨some 15, .fa 0 (.t 14), none⟩, ⟨some 16, .ld false 1 (.t 15), none⟩, ⟨some 17, .mov (.t 1), none⟩, ⟨some 18, .call 214 [.t 16, .t 17], none⟩,
  ⟨some 1, .mov (.t 18), none⟩])) (.reg false [⟨some 10, .mov (.t 5), none⟩, ⟨some 11, .bin .add (.t 10) (.k (.v false [.c (.i .i64 1)])), none⟩, ⟨some 5, .mov
  (.t 11), none⟩])))))) (.seq (.reg false [⟨some 19, .mov (.t 1), none⟩, ⟨some 4, .mov (.t 19), none⟩]) .ret))
theorem hc_laws_markRowS : Tryz.f153.body.bind (comp Tryz.prog Tryz.f153.ntmps) = some ac_laws_markRowS := by kernel_rfl
theorem k_laws_markRowS (a : List GRow) (k : Int) (hpre : 0 ≤ k ∧ k + (tots cntRow a : Nat) ≤ 4611686018427387904) : SpecO Tryz.prog 153 [(false, [.sl true [.sl true [.i .i64 0, .s []] []] (a.map (GRow.cells true true))]), (false, [.i .i64 k])] [(0, (false, [.sl true [.sl true [.i .i64 0, .s []] []] ((mkL mark1Row cntRow a k).map (GRow.cells true true))]))] (.one (false, [.i .i64 (k + (tots cntRow a : Nat))])) := by
  refine spec_of2 true false (some 0) Tryz.func153 hc_laws_markRowS (rvs := [.t 4]) (hΓ := mkCtx_ok (deep := true) (l := [(214, [0], c_laws_markValueS)]) ⟨c_laws_markValueS_ok, trivial⟩) (h := ?_)
  intro hb hE
  simp only [go_sem] at hb
  unfold ac_laws_markRowS
  (try refine AX_AW ?_); simp only [go_sem]; (repeat' first | apply CJ.mk | intro hc); all_goals try ((repeat' first | apply And.intro | intro hs) <;> (try simp only [go_sem, Bool.and_eq_false_iff] at hs) <;> omega)
  refine aw_loop2 true [] [0] [] [] (fun i : {p : Nat × List GRow // p.1 ≤ a.length ∧ p.2 = mkL mark1Row cntRow (a.take p.1) k ++ a.drop p.1} => [(5, slV (.i .i64 i.1.1)), (1, slV (.i .i64 (k + (tots cntRow (a.take i.1.1) : Nat))))]) (fun i => []) (fun i => [(1, [.sl true [.i .i64 0, .s []] []], i.1.2.map (GRow.cells true true))]) (fun i => a.length - i.1.1) (⟨(0, a), by simp [mkL]⟩) _ rfl ?_ ?_
  · simp only [go_sem]
    all_goals first | omega | ((repeat' apply And.intro) <;> first | omega | rfl | skip)
  intro S0 hS0 i
  simp only [go_sem] at hS0
  obtain ⟨⟨i, L⟩, hi, hL⟩ := i
  simp only at hi hL
  have hl : L.length = a.length := by rw [hL]; exact mkL_len mark1Row cntRow a k i
  by_cases hil : (i : Int) < L.length
  · have hgs : ∀ x, (L.set i x).getD i default = x := fun x => by rw [List.getD_eq_getElem?_getD, List.getElem?_set_self (by omega)]; rfl
    have hss : ∀ x y, (L.set i x).set i y = L.set i y := fun x y => List.set_set ..
    have hg2 : ∀ x, ((L.map (GRow.cells true true)).set i x).getD i [.sl true [.i .i64 0, .s []] []] = x := fun x => by rw [List.getD_eq_getElem?_getD, List.getElem?_set_self (by rw [List.length_map]; omega)]; rfl
    have hs2 : ∀ x z, ((L.map (GRow.cells true true)).set i x).set i z = (L.map (GRow.cells true true)).set i z := fun x z => List.set_set ..
    have hg3 : ∀ y x, (((L.set i y).map (GRow.cells true true)).set i x).getD i [.sl true [.i .i64 0, .s []] []] = x := fun y x => by rw [List.getD_eq_getElem?_getD, List.getElem?_set_self (by rw [List.length_map, List.length_set]; omega)]; rfl
    have hs3 : ∀ y x z, (((L.set i y).map (GRow.cells true true)).set i x).set i z = ((L.set i y).map (GRow.cells true true)).set i z := fun y x z => List.set_set ..
    have hx : L.getD i default = a.getD i default := by rw [hL]; exact mkL_get mark1Row cntRow default k (by omega)
    have ht := tots_take_succ cntRow default (show i < a.length by omega)
    have ht2 := tots_take_le cntRow a (i + 1)
    simp only [cntRow] at ht

    (try refine AX_AW ?_); simp only [go_sem, hS0, hgs, hss, hx, hil, hg2, hs2, hg3, hs3]; (repeat' first | apply CJ.mk | intro hc); all_goals try ((repeat' first | apply And.intro | intro hs) <;> (try simp only [go_sem, Bool.and_eq_false_iff] at hs) <;> omega)
    all_goals first
      | omega
      | (exact (hc trivial).elim)
      | ((refine lpK_n2 (⟨(i + 1, L.set i (mark1Row (a.getD i default) (k + (tots cntRow (a.take i) : Nat)))), by simp only; omega, by rw [hL]; exact mkL_set mark1Row cntRow default k (by omega)⟩) _ rfl ?_; simp only [go_sem, hS0, hgs, hss, hx, hil, hg2, hs2, hg3, hs3]; first | done | ((repeat' apply And.intro) <;> first | omega | (refine w64 ?_ ?_ ?_ <;> omega) | rfl | skip)); first | done | (simp only [ht]; omega) | trace_state)
      | trace_state
  · (try refine AX_AW ?_); simp only [go_sem, hS0, hil]; (repeat' first | apply CJ.mk | intro hc); all_goals try ((repeat' first | apply And.intro | intro hs) <;> (try simp only [go_sem, Bool.and_eq_false_iff] at hs) <;> omega)
    have h1 := tots_all cntRow (show ¬ i < a.length by omega)
    rw [List.take_of_length_le (by omega), List.drop_eq_nil_of_le (by omega), List.append_nil] at hL
    all_goals first | exact ⟨by rw [h1], by rw [hL]⟩ | trace_state
noncomputable def c_laws_markRowS : List V → Option (Prop × List (Nat × V) × R) := famP (fun (x : (List GRow) × Int) h => k_laws_markRowS x.1 x.2 h)
@[go_sem] theorem c_laws_markRowS_eq (a : List GRow) (k : Int) : c_laws_markRowS [(false, [.sl true [.sl true [.i .i64 0, .s []] []] (a.map (GRow.cells true true))]), (false, [.i .i64 k])] = some (0 ≤ k ∧ k + (tots cntRow a : Nat) ≤ 4611686018427387904, [(0, (false, [.sl true [.sl true [.i .i64 0, .s []] []] ((mkL mark1Row cntRow a k).map (GRow.cells true true))]))], .one (false, [.i .i64 (k + (tots cntRow a : Nat))])) := famP_eq _ (by rintro ⟨_, _⟩ ⟨_, _⟩ h; simp at h; simp_all) (a, k)
theorem c_laws_markRowS_ok : ∀ vs q o r, c_laws_markRowS vs = some (q, o, r) → q → SpecO Tryz.prog 153 vs o r := famP_ok _
def ac_laws_markNamedS : ACode := .seq (.reg false [⟨some 4, .mov (.k (.v false [.c (.i .i64 0)])), none⟩]) (.seq (.seq (.reg false [⟨some 5, .mov (.k (.v false [.c (.i .i64 0)])), none⟩])
  (.block 0 (.loop (.seq (.seq (.reg false [⟨some 6, .mov (.t 5), none⟩, ⟨some 7, .mov (.t 0), none⟩, ⟨some 8, .len (.t 7), none⟩, ⟨some 9, .bin .lss (.t 6) (.t
  8), none⟩]) (.cond (.t 9) .skip (.exit 0))) (.seq (.block 1 (.seq (.reg false [⟨some 12, .mov (.t 0), none⟩, ⟨some 13, .mov (.t 5), none⟩, ⟨some 14, .mov (.t
  1), none⟩, ⟨some 15, .call 92 [.t 14], none⟩, ⟨some 16, .ia 3 (.t 12) (.t 13), none⟩, ⟨some 17, .fa 0 (.t 16), none⟩, ⟨none, .st 1 (.t 17) (.t 15), none⟩])
  (.seq (.reg false [⟨some 18, .mov (.t 1), none⟩, ⟨some 19, .bin .add (.t 18) (.k (.v false [.c (.i .i64 1)])), none⟩, ⟨some 1, .mov (.t 19), none⟩]) (.seq
  (.reg false [⟨some 20, .mov (.t 0), none⟩, ⟨some 21, .mov (.t 5), none⟩, ⟨some 22, .mov (.t 1), none⟩, ⟨some 23, .ia 3 (.t 20) (.t 21), none⟩, ⟨some 24, .fa 1
  (.t 23), none⟩, ⟨some 25, .fa 0 (.t 24), none⟩, ⟨none, .st 1 (.t 25) (.t 22), none⟩]) (.seq (.reg false [⟨some 26, .mov (.t 1), none⟩, ⟨some 27, .bin .add (.t
  26) (.k (.v false [.c (.i .i64 1)])), none⟩, ⟨some 1, .mov (.t 27), none⟩]) (.reg false [⟨some 28, .mov (.t 0), none⟩, ⟨some 29, .mov (.t 5), none⟩, ⟨some 30,
  .ia 3 (.t 28) (.t 29), none⟩, ⟨some 31, .fa 1 (.t 30), none⟩, ⟨some 32, .fa 1 (.t 31), none⟩, ⟨some 33, .ld false 1 (.t 32), none⟩, ⟨some 34, .mov (.t 1),
  none⟩, ⟨some 35, .call 153 [.t 33, .t 34], none⟩, ⟨some 1, .mov (.t 35), none⟩])))))) (.reg false [⟨some 10, .mov (.t 5), none⟩, ⟨some 11, .bin .add (.t 10)
  (.k (.v false [.c (.i .i64 1)])), none⟩, ⟨some 5, .mov (.t 11), none⟩])))))) (.seq (.reg false [⟨some 36, .mov (.t 1), none⟩, ⟨some 4, .mov (.t 36), none⟩])
  .ret))
theorem hc_laws_markNamedS : Tryz.f81.body.bind (comp Tryz.prog Tryz.f81.ntmps) = some ac_laws_markNamedS := by kernel_rfl
theorem k_laws_markNamedS (a : List GNamed) (k : Int) (hpre : 0 ≤ k ∧ k + (tots cntNamed a : Nat) ≤ 4611686018427387904) : SpecO Tryz.prog 81 [(false, [.sl true [.s [], .i .i64 0, .sl true [.sl true [.i .i64 0, .s []] []] []] (a.map (GNamed.cells true true))]), (false, [.i .i64 k])] [(0, (false, [.sl true [.s [], .i .i64 0, .sl true [.sl true [.i .i64 0, .s []] []] []] ((mkL mark1Named cntNamed a k).map (GNamed.cells true true))]))] (.one (false, [.i .i64 (k + (tots cntNamed a : Nat))])) := by
  refine spec_of2 true false (some 0) Tryz.func81 hc_laws_markNamedS (rvs := [.t 4]) (hΓ := mkCtx_ok (deep := true) (l := [(92, [], c_laws_markText), (153, [0], c_laws_markRowS)]) ⟨c_laws_markText_ok, c_laws_markRowS_ok, trivial⟩) (h := ?_)
  intro hb hE
  simp only [go_sem] at hb
  unfold ac_laws_markNamedS
  (try refine AX_AW ?_); simp only [go_sem]; (repeat' first | apply CJ.mk | intro hc); all_goals try ((repeat' first | apply And.intro | intro hs) <;> (try simp only [go_sem, Bool.and_eq_false_iff] at hs) <;> omega)
  refine aw_loop2 true [] [0] [] [] (fun i : {p : Nat × List GNamed // p.1 ≤ a.length ∧ p.2 = mkL mark1Named cntNamed (a.take p.1) k ++ a.drop p.1} => [(5, slV (.i .i64 i.1.1)), (1, slV (.i .i64 (k + (tots cntNamed (a.take i.1.1) : Nat))))]) (fun i => []) (fun i => [(1, [.s [], .i .i64 0, .sl true [.sl true [.i .i64 0, .s []] []] []], i.1.2.map (GNamed.cells true true))]) (fun i => a.length - i.1.1) (⟨(0, a), by simp [mkL]⟩) _ rfl ?_ ?_
  · simp only [go_sem]
    all_goals first | omega | ((repeat' apply And.intro) <;> first | omega | rfl | skip)
  intro S0 hS0 i
  simp only [go_sem] at hS0
  obtain ⟨⟨i, L⟩, hi, hL⟩ := i
  simp only at hi hL
  have hl : L.length = a.length := by rw [hL]; exact mkL_len mark1Named cntNamed a k i
  by_cases hil : (i : Int) < L.length
  · have hgs : ∀ x, (L.set i x).getD i default = x := fun x => by rw [List.getD_eq_getElem?_getD, List.getElem?_set_self (by omega)]; rfl
    have hss : ∀ x y, (L.set i x).set i y = L.set i y := fun x y => List.set_set ..
    have hg2 : ∀ x, ((L.map (GNamed.cells true true)).set i x).getD i [.s [], .i .i64 0, .sl true [.sl true [.i .i64 0, .s []] []] []] = x := fun x => by rw [List.getD_eq_getElem?_getD, List.getElem?_set_self (by rw [List.length_map]; omega)]; rfl
    have hs2 : ∀ x z, ((L.map (GNamed.cells true true)).set i x).set i z = (L.map (GNamed.cells true true)).set i z := fun x z => List.set_set ..
    have hg3 : ∀ y x, (((L.set i y).map (GNamed.cells true true)).set i x).getD i [.s [], .i .i64 0, .sl true [.sl true [.i .i64 0, .s []] []] []] = x := fun y x => by rw [List.getD_eq_getElem?_getD, List.getElem?_set_self (by rw [List.length_map, List.length_set]; omega)]; rfl
    have hs3 : ∀ y x z, (((L.set i y).map (GNamed.cells true true)).set i x).set i z = ((L.set i y).map (GNamed.cells true true)).set i z := fun y x z => List.set_set ..
    have hx : L.getD i default = a.getD i default := by rw [hL]; exact mkL_get mark1Named cntNamed default k (by omega)
    have ht := tots_take_succ cntNamed default (show i < a.length by omega)
    have ht2 := tots_take_le cntNamed a (i + 1)
    simp only [cntNamed] at ht
    have hw0 : IntKind.i64.wrap ((k + (tots cntNamed (a.take i) : Nat)) + 1) = ((k + (tots cntNamed (a.take i) : Nat)) + 1) := w64 (by omega) (by omega) (by omega)
    have hw1 : IntKind.i64.wrap (((k + (tots cntNamed (a.take i) : Nat)) + 1) + 1) = ((k + (tots cntNamed (a.take i) : Nat)) + 2) := w64 (by omega) (by omega) (by omega)
    (try refine AX_AW ?_); simp only [go_sem, hS0, hgs, hss, hx, hil, hg2, hs2, hg3, hs3, hw0, hw1]; (repeat' first | apply CJ.mk | intro hc); all_goals try ((repeat' first | apply And.intro | intro hs) <;> (try simp only [go_sem, Bool.and_eq_false_iff] at hs) <;> omega)
    all_goals first
      | omega
      | (exact (hc trivial).elim)
      | ((refine lpK_n2 (⟨(i + 1, L.set i (mark1Named (a.getD i default) (k + (tots cntNamed (a.take i) : Nat)))), by simp only; omega, by rw [hL]; exact mkL_set mark1Named cntNamed default k (by omega)⟩) _ rfl ?_; simp only [go_sem, hS0, hgs, hss, hx, hil, hg2, hs2, hg3, hs3, hw0, hw1]; first | done | ((repeat' apply And.intro) <;> first | omega | (refine w64 ?_ ?_ ?_ <;> omega) | rfl | skip)); first | done | (simp only [ht]; omega) | trace_state)
      | trace_state
  · (try refine AX_AW ?_); simp only [go_sem, hS0, hil]; (repeat' first | apply CJ.mk | intro hc); all_goals try ((repeat' first | apply And.intro | intro hs) <;> (try simp only [go_sem, Bool.and_eq_false_iff] at hs) <;> omega)
    have h1 := tots_all cntNamed (show ¬ i < a.length by omega)
    rw [List.take_of_length_le (by omega), List.drop_eq_nil_of_le (by omega), List.append_nil] at hL
    all_goals first | exact ⟨by rw [h1], by rw [hL]⟩ | trace_state
noncomputable def c_laws_markNamedS : List V → Option (Prop × List (Nat × V) × R) := famP (fun (x : (List GNamed) × Int) h => k_laws_markNamedS x.1 x.2 h)
@[go_sem] theorem c_laws_markNamedS_eq (a : List GNamed) (k : Int) : c_laws_markNamedS [(false, [.sl true [.s [], .i .i64 0, .sl true [.sl true [.i .i64 0, .s []] []] []] (a.map (GNamed.cells true true))]), (false, [.i .i64 k])] = some (0 ≤ k ∧ k + (tots cntNamed a : Nat) ≤ 4611686018427387904, [(0, (false, [.sl true [.s [], .i .i64 0, .sl true [.sl true [.i .i64 0, .s []] []] []] ((mkL mark1Named cntNamed a k).map (GNamed.cells true true))]))], .one (false, [.i .i64 (k + (tots cntNamed a : Nat))])) := famP_eq _ (by rintro ⟨_, _⟩ ⟨_, _⟩ h; simp at h; simp_all) (a, k)
theorem c_laws_markNamedS_ok : ∀ vs q o r, c_laws_markNamedS vs = some (q, o, r) → q → SpecO Tryz.prog 81 vs o r := famP_ok _
def ac_laws_markStore : ACode := .seq (.reg false [⟨some 2, .box 1 (.t 0), none⟩, ⟨some 4, .mov (.k (.v false [.c (.i .i64 0)])), none⟩]) (.seq (.reg false [⟨some 5, .fa 0 (.t 2), none⟩, ⟨some
  6, .ld false 1 (.t 5), none⟩, ⟨some 7, .mov (.t 1), none⟩, ⟨some 8, .call 81 [.t 6, .t 7], none⟩, ⟨some 1, .mov (.t 8), none⟩]) (.seq (.reg false [⟨some 9,
  .mov (.t 1), none⟩, ⟨some 4, .mov (.t 9), none⟩]) .ret))
theorem hc_laws_markStore : Tryz.f24.body.bind (comp Tryz.prog Tryz.f24.ntmps) = some ac_laws_markStore := by kernel_rfl
theorem k_laws_markStore (a : GStore) (k : Int) (hpre : 0 ≤ k ∧ (k + (tots cntNamed a.Rels : Nat)) ≤ 4611686018427387904) : SpecO Tryz.prog 24 [(true, [.sl true [.s [], .i .i64 0, .sl true [.sl true [.i .i64 0, .s []] []] []] (a.Rels.map (GNamed.cells true true))]), (false, [.i .i64 k])] [(0, (true, [.sl true [.s [], .i .i64 0, .sl true [.sl true [.i .i64 0, .s []] []] []] (((GStore.mk (mkL mark1Named cntNamed a.Rels k)).Rels).map (GNamed.cells true true))]))] (.one (false, [.i .i64 (k + (tots cntNamed a.Rels : Nat))])) := by
  refine spec_of2 true false (some 0) Tryz.func24 hc_laws_markStore (rvs := [.t 4]) (hΓ := mkCtx_ok (deep := true) (l := [(81, [0], c_laws_markNamedS)]) ⟨c_laws_markNamedS_ok, trivial⟩) (h := ?_)
  intro hb hE
  simp only [go_sem] at hb
  unfold ac_laws_markStore
  (try refine AX_AW ?_); simp only [go_sem]; (repeat' first | apply CJ.mk | intro hc); all_goals try ((repeat' first | apply And.intro | intro hs) <;> (try simp only [go_sem, Bool.and_eq_false_iff] at hs) <;> omega)
  all_goals first | omega | trace_state
noncomputable def c_laws_markStore : List V → Option (Prop × List (Nat × V) × R) := famP (fun (x : GStore × Int) h => k_laws_markStore x.1 x.2 h)
@[go_sem] theorem c_laws_markStore_eq (a_Rels : List GNamed) (k : Int) : c_laws_markStore [(true, [.sl true [.s [], .i .i64 0, .sl true [.sl true [.i .i64 0, .s []] []] []] (a_Rels.map (GNamed.cells true true))]), (false, [.i .i64 k])] = some (0 ≤ k ∧ (k + (tots cntNamed (GStore.mk a_Rels).Rels : Nat)) ≤ 4611686018427387904, [(0, (true, [.sl true [.s [], .i .i64 0, .sl true [.sl true [.i .i64 0, .s []] []] []] (((GStore.mk (mkL mark1Named cntNamed (GStore.mk a_Rels).Rels k)).Rels).map (GNamed.cells true true))]))], .one (false, [.i .i64 (k + (tots cntNamed (GStore.mk a_Rels).Rels : Nat))])) := famP_eq _ (by rintro ⟨⟨_⟩, _⟩ ⟨⟨_⟩, _⟩ h; simp at h; simp_all) ((GStore.mk a_Rels), k)
theorem c_laws_markStore_ok : ∀ vs q o r, c_laws_markStore vs = some (q, o, r) → q → SpecO Tryz.prog 24 vs o r := famP_ok _
end Go.Aw
