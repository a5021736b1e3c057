/- Marked programs, states. No condition. -/
import Derived.Test.YthlbadfickhkfaaGreatzaM4
namespace Go.Aw
open Go.Proofs
attribute [local irreducible] aft blk lpK retK AW SpecO
set_option linter.unusedVariables false
set_option linter.unusedSimpArgs false
set_option maxRecDepth 100000
set_option maxHeartbeats 4000000
def mark1Decl (k : Int) : GDecl := (GDecl.mk k (mtext (k + 1)) (k + 2))
def markLDecl (n : Nat) (k : Int) : List GDecl := (List.range n).map fun i : Nat => mark1Decl (k + 3 * (i : Int))
theorem markLDecl_len (n : Nat) (k : Int) : (markLDecl n k).length = n := by simp [markLDecl]
theorem markLDecl_getD (n : Nat) (k : Int) {i : Nat} (h : i < n) : (markLDecl n k).getD i default = mark1Decl (k + 3 * (i : Int)) := by
  rw [List.getD_eq_getElem?_getD, markLDecl, List.getElem?_map, List.getElem?_range h]
  rfl
def cntRule (x : GRule) : Nat := 2 + 3 * x.Head.Args.length + tots cntLit x.Body
def mark1Rule (x : GRule) (k : Int) : GRule := GRule.mk k (GAtom.mk (mtext (k + 1)) (markLTerm x.Head.Args.length (k + 2))) (mkL mark1Lit cntLit x.Body ((k + 2) + 3 * (x.Head.Args.length : Nat)))
def cntRow (x : GRow) : Nat := 2 * x.V.length
def mark1Row (x : GRow) (k : Int) : GRow := GRow.mk (markLValue x.V.length k)
def cntNamed (x : GNamed) : Nat := 2 + tots cntRow x.Rel.Rows
def mark1Named (x : GNamed) (k : Int) : GNamed := GNamed.mk (mtext k) (GRel.mk (k + 1) (mkL mark1Row cntRow x.Rel.Rows (k + 2)))
def ac_laws_markDeclS : ACode := q' ([z' 4 0]) (.seq (q' ([z' 5 0]) (.block 0 (.loop (.seq (q' ([m' 6 5, m' 7 0, n' 8 7, r' 9 6 8]) (.cond (.t 9) .skip (.exit 0))) (.seq (.block 1 (q' ([m' 12
  0, m' 13 5, m' 14 1, i' 15 3 12 13, f' 16 0 15, s' 1 16 14]) (q' ([m' 17 1, a' 18 17, m' 1 18]) (q' ([m' 19 0, m' 20 5, m' 21 1, c' 22 85 [21], i' 23 3 19 20,
  f' 24 1 23, s' 1 24 22]) (q' ([m' 25 1, a' 26 25, m' 1 26]) (q' ([m' 27 0, m' 28 5, m' 29 1, i' 30 3 27 28, f' 31 2 30, s' 1 31 29]) (g' [m' 32 1, a' 33 32,
  m' 1 33]))))))) (g' [m' 10 5, a' 11 10, m' 5 11])))))) (q' ([m' 34 1, m' 4 34]) .ret))
theorem hc_laws_markDeclS : Tryz.f71.body.bind (comp Tryz.prog Tryz.f71.ntmps) = some ac_laws_markDeclS := by kernel_rfl
theorem k_laws_markDeclS (a : List GDecl) (k : Int) (hpre : 0 ≤ k ∧ k + 3 * (a.length : Nat) ≤ 4611686018427387904) : SpecO Tryz.prog 71 [(false, [.sl true [.i .i64 0, .s [], .i .i64 0] (a.map GDecl.cells)]), (false, [.i .i64 k])] [(0, (false, [.sl true [.i .i64 0, .s [], .i .i64 0] ((markLDecl a.length k).map GDecl.cells)]))] (.one (false, [.i .i64 (k + 3 * (a.length : Nat))])) := by
  refine spec_of2 true false (some 0) Tryz.func71 hc_laws_markDeclS (rvs := [.t 4]) (hΓ := mkCtx_ok (deep := true) (l := [(85, [], c_laws_markText)]) ⟨c_laws_markText_ok, trivial⟩) (h := ?_)
  intro hb hE
  simp only [go_sem] at hb
  dsimp only [ac_laws_markDeclS, List.map_cons, List.map_nil, m', f', l', e', n', z', b', a', r', s', i', w', c', o', k', g', q']
  (try refine AX_AW ?_); simp only [go_sem]; (repeat' first | apply CJ.mk | intro hc); all_goals try ((repeat' first | apply And.intro | intro hs) <;> (try simp only [go_sem, Bool.and_eq_false_iff] at hs) <;> omega)
  refine aw_loop2 true [] [0] [] [] (fun i : {p : Nat × (List GDecl) // p.1 ≤ a.length ∧ p.2.length = a.length ∧ p.2.take p.1 = (markLDecl a.length k).take p.1} => [(5, slV (.i .i64 i.1.1)), (1, slV (.i .i64 (k + 3 * (i.1.1 : Int))))]) (fun i => []) (fun i => [(1, [.i .i64 0, .s [], .i .i64 0], i.1.2.map GDecl.cells)]) (fun i => a.length - i.1.1) (⟨(0, a), by simp⟩) _ rfl ?_ ?_
  · simp only [go_sem]
    all_goals first | omega | ((repeat' apply And.intro) <;> first | omega | rfl | skip)
  intro S0 hS0 i
  simp only [go_sem] at hS0
  obtain ⟨⟨i, L⟩, hi, hl, ht⟩ := i
  simp only at hi hl ht
  by_cases hil : (i : Int) < L.length
  · have hgs : ∀ x, (L.set i x).getD i default = x := fun x => by rw [List.getD_eq_getElem?_getD, List.getElem?_set_self (by omega)]; rfl
    have hss : ∀ x y, (L.set i x).set i y = L.set i y := fun x y => List.set_set ..
    have hw0 : IntKind.i64.wrap (k + 3 * (i : Int) + 1) = k + 3 * (i : Int) + 1 := w64 (by omega) (by omega) (by omega)
    have hw1 : IntKind.i64.wrap (k + 3 * (i : Int) + 1 + 1) = k + 3 * (i : Int) + 2 := w64 (by omega) (by omega) (by omega)
    have hw2 : IntKind.i64.wrap (k + 3 * (i : Int) + 2 + 1) = k + 3 * (i : Int) + 3 := w64 (by omega) (by omega) (by omega)
    (try refine AX_AW ?_); simp only [go_sem, hS0, hgs, hss, hil, hw0, hw1, hw2]; (repeat' first | apply CJ.mk | intro hc); all_goals try ((repeat' first | apply And.intro | intro hs) <;> (try simp only [go_sem, Bool.and_eq_false_iff] at hs) <;> omega)
    (refine lpK_n2 (⟨(i + 1, L.set i (mark1Decl (k + 3 * (i : Int)))), by simp only; omega, by simp [hl], by rw [← markLDecl_getD a.length k (show i < a.length by omega)]; exact take_set_succ (by rw [hl, markLDecl_len]) ht (by rw [markLDecl_len]; omega)⟩) _ rfl ?_; simp only [go_sem, hS0, hgs, hss, hil, hw0, hw1, hw2]; first | done | ((repeat' apply And.intro) <;> first | omega | (refine w64 ?_ ?_ ?_ <;> omega) | rfl | skip))
    · exact (hc trivial).elim
  · (try refine AX_AW ?_); simp only [go_sem, hS0, hil]; (repeat' first | apply CJ.mk | intro hc); all_goals try ((repeat' first | apply And.intro | intro hs) <;> (try simp only [go_sem, Bool.and_eq_false_iff] at hs) <;> omega)
    obtain rfl : i = a.length := by omega
    obtain rfl := eq_of_take (by rw [hl, markLDecl_len]) ht (by rw [markLDecl_len]; omega)
    exact ⟨rfl, rfl⟩
noncomputable def c_laws_markDeclS : List V → Option (Prop × List (Nat × V) × R) := famP (fun (x : (List GDecl) × Int) h => k_laws_markDeclS x.1 x.2 h)
@[go_sem] theorem c_laws_markDeclS_eq (a : List GDecl) (k : Int) : c_laws_markDeclS [(false, [.sl true [.i .i64 0, .s [], .i .i64 0] (a.map GDecl.cells)]), (false, [.i .i64 k])] = some (0 ≤ k ∧ k + 3 * (a.length : Nat) ≤ 4611686018427387904, [(0, (false, [.sl true [.i .i64 0, .s [], .i .i64 0] ((markLDecl a.length k).map GDecl.cells)]))], .one (false, [.i .i64 (k + 3 * (a.length : Nat))])) := famP_eq _ (by rintro ⟨_, _⟩ ⟨_, _⟩ h; simp at h; simp_all) (a, k)
theorem c_laws_markDeclS_ok : ∀ vs q o r, c_laws_markDeclS vs = some (q, o, r) → q → SpecO Tryz.prog 71 vs o r := famP_ok _
def ac_laws_markRuleS : ACode := q' ([z' 4 0]) (.seq (q' ([z' 5 0]) (.block 0 (.loop (.seq (q' ([m' 6 5, m' 7 0, n' 8 7, r' 9 6 8]) (.cond (.t 9) .skip (.exit 0))) (.seq (.block 1 (q' ([m' 12
  0, m' 13 5, m' 14 1, i' 15 4 12 13, f' 16 0 15, s' 1 16 14]) (q' ([m' 17 1, a' 18 17, m' 1 18]) (q' ([m' 19 0, m' 20 5, m' 21 1, c' 22 85 [21], i' 23 4 19 20,
  f' 24 1 23, f' 25 0 24, s' 1 25 22]) (q' ([m' 26 1, a' 27 26, m' 1 27]) (q' ([m' 28 0, m' 29 5, i' 30 4 28 29, f' 31 1 30, f' 32 1 31, l' 33 32, m' 34 1, c'
  35 145 [33, 34], m' 1 35]) (g' [m' 36 0, m' 37 5, i' 38 4 36 37, f' 39 3 38, l' 40 39, m' 41 1, c' 42 125 [40, 41], m' 1 42]))))))) (g' [m' 10 5, a' 11 10, m'
  5 11])))))) (q' ([m' 43 1, m' 4 43]) .ret))
theorem hc_laws_markRuleS : Tryz.f72.body.bind (comp Tryz.prog Tryz.f72.ntmps) = some ac_laws_markRuleS := by kernel_rfl
theorem k_laws_markRuleS (a : List GRule) (k : Int) (hpre : 0 ≤ k ∧ k + (tots cntRule a : Nat) ≤ 4611686018427387904) : SpecO Tryz.prog 72 [(false, [.sl true [.i .i64 0, .s [], .sl true [.s [], .i .i64 0, .s []] [], .sl true [.i .i64 0, .s [], .sl true [.s [], .i .i64 0, .s []] [], .i .i64 0, .s [], .i .i64 0, .s [], .s [], .i .i64 0, .s []] []] (a.map (GRule.cells true true))]), (false, [.i .i64 k])] [(0, (false, [.sl true [.i .i64 0, .s [], .sl true [.s [], .i .i64 0, .s []] [], .sl true [.i .i64 0, .s [], .sl true [.s [], .i .i64 0, .s []] [], .i .i64 0, .s [], .i .i64 0, .s [], .s [], .i .i64 0, .s []] []] ((mkL mark1Rule cntRule a k).map (GRule.cells true true))]))] (.one (false, [.i .i64 (k + (tots cntRule a : Nat))])) := by
  refine spec_of2 true false (some 0) Tryz.func72 hc_laws_markRuleS (rvs := [.t 4]) (hΓ := mkCtx_ok (deep := true) (l := [(85, [], c_laws_markText), (145, [0], c_laws_markTermS), (125, [0], c_laws_markLitS)]) ⟨c_laws_markText_ok, c_laws_markTermS_ok, c_laws_markLitS_ok, trivial⟩) (h := ?_)
  intro hb hE
  simp only [go_sem] at hb
  dsimp only [ac_laws_markRuleS, List.map_cons, List.map_nil, m', f', l', e', n', z', b', a', r', s', i', w', c', o', k', g', q']
  (try refine AX_AW ?_); simp only [go_sem]; (repeat' first | apply CJ.mk | intro hc); all_goals try ((repeat' first | apply And.intro | intro hs) <;> (try simp only [go_sem, Bool.and_eq_false_iff] at hs) <;> omega)
  refine aw_loop2 true [] [0] [] [] (fun i : {p : Nat × List GRule // p.1 ≤ a.length ∧ p.2 = mkL mark1Rule cntRule (a.take p.1) k ++ a.drop p.1} => [(5, slV (.i .i64 i.1.1)), (1, slV (.i .i64 (k + (tots cntRule (a.take i.1.1) : Nat))))]) (fun i => []) (fun i => [(1, [.i .i64 0, .s [], .sl true [.s [], .i .i64 0, .s []] [], .sl true [.i .i64 0, .s [], .sl true [.s [], .i .i64 0, .s []] [], .i .i64 0, .s [], .i .i64 0, .s [], .s [], .i .i64 0, .s []] []], i.1.2.map (GRule.cells true true))]) (fun i => a.length - i.1.1) (⟨(0, a), by simp [mkL]⟩) _ rfl ?_ ?_
  · simp only [go_sem]
    all_goals first | omega | ((repeat' apply And.intro) <;> first | omega | rfl | skip)
  intro S0 hS0 i
  simp only [go_sem] at hS0
  obtain ⟨⟨i, L⟩, hi, hL⟩ := i
  simp only at hi hL
  have hl : L.length = a.length := by rw [hL]; exact mkL_len mark1Rule cntRule a k i
  by_cases hil : (i : Int) < L.length
  · have hgs : ∀ x, (L.set i x).getD i default = x := fun x => by rw [List.getD_eq_getElem?_getD, List.getElem?_set_self (by omega)]; rfl
    have hss : ∀ x y, (L.set i x).set i y = L.set i y := fun x y => List.set_set ..
    have hg2 : ∀ x, ((L.map (GRule.cells true true)).set i x).getD i [.i .i64 0, .s [], .sl true [.s [], .i .i64 0, .s []] [], .sl true [.i .i64 0, .s [], .sl true [.s [], .i .i64 0, .s []] [], .i .i64 0, .s [], .i .i64 0, .s [], .s [], .i .i64 0, .s []] []] = x := fun x => by rw [List.getD_eq_getElem?_getD, List.getElem?_set_self (by rw [List.length_map]; omega)]; rfl
    have hs2 : ∀ x z, ((L.map (GRule.cells true true)).set i x).set i z = (L.map (GRule.cells true true)).set i z := fun x z => List.set_set ..
    have hg3 : ∀ y x, (((L.set i y).map (GRule.cells true true)).set i x).getD i [.i .i64 0, .s [], .sl true [.s [], .i .i64 0, .s []] [], .sl true [.i .i64 0, .s [], .sl true [.s [], .i .i64 0, .s []] [], .i .i64 0, .s [], .i .i64 0, .s [], .s [], .i .i64 0, .s []] []] = x := fun y x => by rw [List.getD_eq_getElem?_getD, List.getElem?_set_self (by rw [List.length_map, List.length_set]; omega)]; rfl
    have hs3 : ∀ y x z, (((L.set i y).map (GRule.cells true true)).set i x).set i z = ((L.set i y).map (GRule.cells true true)).set i z := fun y x z => List.set_set ..
    have hx : L.getD i default = a.getD i default := by rw [hL]; exact mkL_get mark1Rule cntRule default k (by omega)
    have ht := tots_take_succ cntRule default (show i < a.length by omega)
    have ht2 := tots_take_le cntRule a (i + 1)
    simp only [cntRule] at ht
    have hw0 : IntKind.i64.wrap ((k + (tots cntRule (a.take i) : Nat)) + 1) = ((k + (tots cntRule (a.take i) : Nat)) + 1) := w64 (by omega) (by omega) (by omega)
    have hw1 : IntKind.i64.wrap (((k + (tots cntRule (a.take i) : Nat)) + 1) + 1) = ((k + (tots cntRule (a.take i) : Nat)) + 2) := w64 (by omega) (by omega) (by omega)
    (try refine AX_AW ?_); simp only [go_sem, hS0, hgs, hss, hx, hil, hg2, hs2, hg3, hs3, hw0, hw1]; (repeat' first | apply CJ.mk | intro hc); all_goals try ((repeat' first | apply And.intro | intro hs) <;> (try simp only [go_sem, Bool.and_eq_false_iff] at hs) <;> omega)
    all_goals first
      | omega
      | (exact (hc trivial).elim)
      | ((refine lpK_n2 (⟨(i + 1, L.set i (mark1Rule (a.getD i default) (k + (tots cntRule (a.take i) : Nat)))), by simp only; omega, by rw [hL]; exact mkL_set mark1Rule cntRule default k (by omega)⟩) _ rfl ?_; simp only [go_sem, hS0, hgs, hss, hx, hil, hg2, hs2, hg3, hs3, hw0, hw1]; first | done | ((repeat' apply And.intro) <;> first | omega | (refine w64 ?_ ?_ ?_ <;> omega) | rfl | skip)); first | done | (simp only [ht]; omega) | trace_state)
      | trace_state
  · (try refine AX_AW ?_); simp only [go_sem, hS0, hil]; (repeat' first | apply CJ.mk | intro hc); all_goals try ((repeat' first | apply And.intro | intro hs) <;> (try simp only [go_sem, Bool.and_eq_false_iff] at hs) <;> omega)
    have h1 := tots_all cntRule (show ¬ i < a.length by omega)
    rw [List.take_of_length_le (by omega), List.drop_eq_nil_of_le (by omega), List.append_nil] at hL
    all_goals first | exact ⟨by rw [h1], by rw [hL]⟩ | trace_state
noncomputable def c_laws_markRuleS : List V → Option (Prop × List (Nat × V) × R) := famP (fun (x : (List GRule) × Int) h => k_laws_markRuleS x.1 x.2 h)
@[go_sem] theorem c_laws_markRuleS_eq (a : List GRule) (k : Int) : c_laws_markRuleS [(false, [.sl true [.i .i64 0, .s [], .sl true [.s [], .i .i64 0, .s []] [], .sl true [.i .i64 0, .s [], .sl true [.s [], .i .i64 0, .s []] [], .i .i64 0, .s [], .i .i64 0, .s [], .s [], .i .i64 0, .s []] []] (a.map (GRule.cells true true))]), (false, [.i .i64 k])] = some (0 ≤ k ∧ k + (tots cntRule a : Nat) ≤ 4611686018427387904, [(0, (false, [.sl true [.i .i64 0, .s [], .sl true [.s [], .i .i64 0, .s []] [], .sl true [.i .i64 0, .s [], .sl true [.s [], .i .i64 0, .s []] [], .i .i64 0, .s [], .i .i64 0, .s [], .s [], .i .i64 0, .s []] []] ((mkL mark1Rule cntRule a k).map (GRule.cells true true))]))], .one (false, [.i .i64 (k + (tots cntRule a : Nat))])) := famP_eq _ (by rintro ⟨_, _⟩ ⟨_, _⟩ h; simp at h; simp_all) (a, k)
theorem c_laws_markRuleS_ok : ∀ vs q o r, c_laws_markRuleS vs = some (q, o, r) → q → SpecO Tryz.prog 72 vs o r := famP_ok _
def ac_laws_markProgram : ACode := q' ([o' 2 (.box 2 (.t 0)), z' 4 0]) (q' ([f' 5 0 2, l' 6 5, m' 7 1, c' 8 71 [6, 7], m' 1 8]) (q' ([f' 9 1 2, l' 10 9, m' 11 1, c' 12 72 [10, 11], m' 1 12]) (q'
  ([m' 13 1, m' 4 13]) .ret)))
theorem hc_laws_markProgram : Tryz.f18.body.bind (comp Tryz.prog Tryz.f18.ntmps) = some ac_laws_markProgram := by kernel_rfl
theorem k_laws_markProgram (a : GProgram) (k : Int) (hpre : 0 ≤ k ∧ ((k + 3 * (a.Decls.length : Nat)) + (tots cntRule a.Rules : Nat)) ≤ 4611686018427387904) : SpecO Tryz.prog 18 [(true, [.sl true [.i .i64 0, .s [], .i .i64 0] (a.Decls.map GDecl.cells), .sl true [.i .i64 0, .s [], .sl true [.s [], .i .i64 0, .s []] [], .sl true [.i .i64 0, .s [], .sl true [.s [], .i .i64 0, .s []] [], .i .i64 0, .s [], .i .i64 0, .s [], .s [], .i .i64 0, .s []] []] (a.Rules.map (GRule.cells true true))]), (false, [.i .i64 k])] [(0, (true, [.sl true [.i .i64 0, .s [], .i .i64 0] (((GProgram.mk (markLDecl a.Decls.length k) (mkL mark1Rule cntRule a.Rules (k + 3 * (a.Decls.length : Nat)))).Decls).map GDecl.cells), .sl true [.i .i64 0, .s [], .sl true [.s [], .i .i64 0, .s []] [], .sl true [.i .i64 0, .s [], .sl true [.s [], .i .i64 0, .s []] [], .i .i64 0, .s [], .i .i64 0, .s [], .s [], .i .i64 0, .s []] []] (((GProgram.mk (markLDecl a.Decls.length k) (mkL mark1Rule cntRule a.Rules (k + 3 * (a.Decls.length : Nat)))).Rules).map (GRule.cells true true))]))] (.one (false, [.i .i64 ((k + 3 * (a.Decls.length : Nat)) + (tots cntRule a.Rules : Nat))])) := by
  refine spec_of2 true false (some 0) Tryz.func18 hc_laws_markProgram (rvs := [.t 4]) (hΓ := mkCtx_ok (deep := true) (l := [(71, [0], c_laws_markDeclS), (72, [0], c_laws_markRuleS)]) ⟨c_laws_markDeclS_ok, c_laws_markRuleS_ok, trivial⟩) (h := ?_)
  intro hb hE
  simp only [go_sem] at hb
  dsimp only [ac_laws_markProgram, List.map_cons, List.map_nil, m', f', l', e', n', z', b', a', r', s', i', w', c', o', k', g', q']
  (try refine AX_AW ?_); simp only [go_sem]; (repeat' first | apply CJ.mk | intro hc); all_goals try ((repeat' first | apply And.intro | intro hs) <;> (try simp only [go_sem, Bool.and_eq_false_iff] at hs) <;> omega)
  all_goals first | omega | trace_state
noncomputable def c_laws_markProgram : List V → Option (Prop × List (Nat × V) × R) := famP (fun (x : GProgram × Int) h => k_laws_markProgram x.1 x.2 h)
@[go_sem] theorem c_laws_markProgram_eq (a_Decls : List GDecl) (a_Rules : List GRule) (k : Int) : c_laws_markProgram [(true, [.sl true [.i .i64 0, .s [], .i .i64 0] (a_Decls.map GDecl.cells), .sl true [.i .i64 0, .s [], .sl true [.s [], .i .i64 0, .s []] [], .sl true [.i .i64 0, .s [], .sl true [.s [], .i .i64 0, .s []] [], .i .i64 0, .s [], .i .i64 0, .s [], .s [], .i .i64 0, .s []] []] (a_Rules.map (GRule.cells true true))]), (false, [.i .i64 k])] = some (0 ≤ k ∧ ((k + 3 * ((GProgram.mk a_Decls a_Rules).Decls.length : Nat)) + (tots cntRule (GProgram.mk a_Decls a_Rules).Rules : Nat)) ≤ 4611686018427387904, [(0, (true, [.sl true [.i .i64 0, .s [], .i .i64 0] (((GProgram.mk (markLDecl (GProgram.mk a_Decls a_Rules).Decls.length k) (mkL mark1Rule cntRule (GProgram.mk a_Decls a_Rules).Rules (k + 3 * ((GProgram.mk a_Decls a_Rules).Decls.length : Nat)))).Decls).map GDecl.cells), .sl true [.i .i64 0, .s [], .sl true [.s [], .i .i64 0, .s []] [], .sl true [.i .i64 0, .s [], .sl true [.s [], .i .i64 0, .s []] [], .i .i64 0, .s [], .i .i64 0, .s [], .s [], .i .i64 0, .s []] []] (((GProgram.mk (markLDecl (GProgram.mk a_Decls a_Rules).Decls.length k) (mkL mark1Rule cntRule (GProgram.mk a_Decls a_Rules).Rules (k + 3 * ((GProgram.mk a_Decls a_Rules).Decls.length : Nat)))).Rules).map (GRule.cells true true))]))], .one (false, [.i .i64 ((k + 3 * ((GProgram.mk a_Decls a_Rules).Decls.length : Nat)) + (tots cntRule (GProgram.mk a_Decls a_Rules).Rules : Nat))])) := famP_eq _ (by rintro ⟨⟨_, _⟩, _⟩ ⟨⟨_, _⟩, _⟩ h; simp at h; simp_all) ((GProgram.mk a_Decls a_Rules), k)
theorem c_laws_markProgram_ok : ∀ vs q o r, c_laws_markProgram vs = some (q, o, r) → q → SpecO Tryz.prog 18 vs o r := famP_ok _
end Go.Aw
