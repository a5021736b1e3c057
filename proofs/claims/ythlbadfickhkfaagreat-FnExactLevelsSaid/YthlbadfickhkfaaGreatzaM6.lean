/- Levels: equalities, marks. No condition. -/
import Derived.Test.YthlbadfickhkfaaGreatzaM1
import Derived.Test.YthlbadfickhkfaaGreatzaB0
namespace Go.Aw
open Go.Proofs
attribute [local irreducible] aft blk lpK retK AW SpecO
set_option linter.unusedVariables false
set_option linter.unusedSimpArgs false
set_option maxRecDepth 100000
def ac_laws_eqLevel : ACode := q' ([o' 2 (.box 2 (.t 0)), o' 3 (.box 2 (.t 1)), b' 4 false]) (.seq (q' ([f' 5 0 2, l' 6 5, f' 7 0 3, l' 8 7, o' 9 (.bin .neq (.t 6) (.t 8))]) (.cond (.t 9) (q'
  ([b' 4 false]) .ret) .skip)) (.seq (q' ([f' 10 1 2, l' 11 10, f' 12 1 3, l' 13 12, o' 14 (.bin .neq (.t 11) (.t 13))]) (.cond (.t 14) (q' ([b' 4 false]) .ret)
  .skip)) (q' ([b' 4 true]) .ret)))
theorem hc_laws_eqLevel : Tryz.f84.body.bind (comp Tryz.prog Tryz.f84.ntmps) = some ac_laws_eqLevel := by kernel_rfl
theorem k_laws_eqLevel (a : GLevel) (b : GLevel) : SpecO Tryz.prog 84 [(true, [.s a.Name, .i .i64 a.N]), (true, [.s b.Name, .i .i64 b.N])] [] (.one (false, [.b (decide (a = b))])) := by
  refine spec_of2 false false none Tryz.func84 hc_laws_eqLevel (rvs := [.t 4]) (hΓ := mkCtx_ok (deep := false) (l := []) trivial) (h := ?_)
  intro hb hE
  simp only [go_sem] at hb
  dsimp only [ac_laws_eqLevel, List.map_cons, List.map_nil, m', f', l', e', n', z', b', a', r', s', i', w', c', o', k', g', q']
  (try refine AX_AW ?_); simp only [go_sem]; (repeat' first | apply CJ.mk | intro hc); all_goals try ((repeat' first | apply And.intro | intro hs) <;> (try simp only [go_sem, Bool.and_eq_false_iff] at hs) <;> omega)
  all_goals (cases a; cases b; simp_all)
noncomputable def c_laws_eqLevel : List V → Option (Prop × List (Nat × V) × R) := famQ (fun (x : GLevel × GLevel) => k_laws_eqLevel x.1 x.2)
@[go_sem] theorem c_laws_eqLevel_eq (a_Name : List UInt8) (a_N : Int) (b_Name : List UInt8) (b_N : Int) : c_laws_eqLevel [(true, [.s a_Name, .i .i64 a_N]), (true, [.s b_Name, .i .i64 b_N])] = some (True, [], .one (false, [.b (decide ((GLevel.mk a_Name a_N) = (GLevel.mk b_Name b_N)))])) := famQ_eq _ (by rintro ⟨⟨_, _⟩, ⟨_, _⟩⟩ ⟨⟨_, _⟩, ⟨_, _⟩⟩ h; simp at h; simp_all) ((GLevel.mk a_Name a_N), (GLevel.mk b_Name b_N))
theorem c_laws_eqLevel_ok : ∀ vs q o r, c_laws_eqLevel vs = some (q, o, r) → q → SpecO Tryz.prog 84 vs o r := famQ_ok _
def ac_laws_eqLevelS : ACode := q' ([b' 4 false]) (.seq (q' ([m' 6 0, n' 7 6, m' 8 1, n' 9 8, o' 10 (.bin .neq (.t 7) (.t 9))]) (.cond (.t 10) (q' ([b' 4 false]) .ret) .skip)) (.seq (q' ([z' 5
  0]) (.block 0 (.loop (.seq (q' ([m' 11 5, m' 12 0, n' 13 12, r' 14 11 13]) (.cond (.t 14) .skip (.exit 0))) (.seq (.block 1 (.seq (.reg true [m' 17 0, m' 18
  5, i' 19 2 17 18, e' 20 2 19, m' 21 1, m' 22 5, i' 23 2 21 22, e' 24 2 23, c' 25 84 [20, 24], o' 26 (.not (.t 25))]) (.cond (.t 26) (q' ([b' 4 false]) .ret)
  .skip))) (g' [m' 15 5, a' 16 15, m' 5 16])))))) (q' ([b' 4 true]) .ret)))
theorem hc_laws_eqLevelS : Tryz.f23.body.bind (comp Tryz.prog Tryz.f23.ntmps) = some ac_laws_eqLevelS := by kernel_rfl
theorem k_laws_eqLevelS (a : List GLevel) (b : List GLevel) : SpecO Tryz.prog 23 [(false, [.sl false [.s [], .i .i64 0] (a.map GLevel.cells)]), (false, [.sl false [.s [], .i .i64 0] (b.map GLevel.cells)])] [] (.one (false, [.b (decide (a = b))])) := by
  refine spec_of2 false false none Tryz.func23 hc_laws_eqLevelS (rvs := [.t 4]) (hΓ := mkCtx_ok (deep := false) (l := [(84, [], c_laws_eqLevel)]) ⟨c_laws_eqLevel_ok, trivial⟩) (h := ?_)
  intro hb hE
  simp only [go_sem] at hb
  dsimp only [ac_laws_eqLevelS, List.map_cons, List.map_nil, m', f', l', e', n', z', b', a', r', s', i', w', c', o', k', g', q']
  (try refine AX_AW ?_); simp only [go_sem]; (repeat' first | apply CJ.mk | intro hc); all_goals try ((repeat' first | apply And.intro | intro hs) <;> (try simp only [go_sem, Bool.and_eq_false_iff] at hs) <;> omega)
  · symm
    rw [decide_eq_false_iff_not]
    rintro rfl
    simp at hc
  have hl : a.length = b.length := by simpa [Int.ofNat_inj] using hc
  refine aw_loop2 false [] [0, 1] [] [] (fun i : {i : Nat // i ≤ a.length ∧ a.take i = b.take i} => [(5, slV (.i .i64 i.1))]) (fun i => []) (fun i => []) (fun i => a.length - i.1) (⟨0, by simp⟩) _ rfl ?_ ?_
  · simp only [go_sem]
    all_goals first | omega | ((repeat' apply And.intro) <;> first | omega | rfl | skip)
  intro S0 hS0 i
  simp only [go_sem] at hS0
  obtain ⟨i, hi, ht⟩ := i
  (try refine AX_AW ?_); simp only [go_sem, hS0]; (repeat' first | apply CJ.mk | intro hc); all_goals try ((repeat' first | apply And.intro | intro hs) <;> (try simp only [go_sem, Bool.and_eq_false_iff] at hs) <;> omega)
  · exact (decide_eq_false (ne_of_getD default (i := i) (by simpa using hc))).symm
  · (refine lpK_n2 (⟨i + 1, by omega, take_succ_eq ht (by omega) (by omega) (d := default) (by simpa using hc)⟩) _ rfl ?_; simp only [go_sem, hS0]; first | done | ((repeat' apply And.intro) <;> first | omega | (refine w64 ?_ ?_ ?_ <;> omega) | rfl | skip))
  · exact (decide_eq_true (eq_of_take hl ht (by omega))).symm
  all_goals trace_state
noncomputable def c_laws_eqLevelS : List V → Option (Prop × List (Nat × V) × R) := famQ (fun (x : (List GLevel) × (List GLevel)) => k_laws_eqLevelS x.1 x.2)
@[go_sem] theorem c_laws_eqLevelS_eq (a : List GLevel) (b : List GLevel) : c_laws_eqLevelS [(false, [.sl false [.s [], .i .i64 0] (a.map GLevel.cells)]), (false, [.sl false [.s [], .i .i64 0] (b.map GLevel.cells)])] = some (True, [], .one (false, [.b (decide (a = b))])) := famQ_eq _ (by rintro ⟨_, _⟩ ⟨_, _⟩ h; simp at h; simp_all) (a, b)
theorem c_laws_eqLevelS_ok : ∀ vs q o r, c_laws_eqLevelS vs = some (q, o, r) → q → SpecO Tryz.prog 23 vs o r := famQ_ok _
def mark1Level (k : Int) : GLevel := (GLevel.mk (mtext k) (k + 1))
def markLLevel (n : Nat) (k : Int) : List GLevel := (List.range n).map fun i : Nat => mark1Level (k + 2 * (i : Int))
theorem markLLevel_len (n : Nat) (k : Int) : (markLLevel n k).length = n := by simp [markLLevel]
theorem markLLevel_getD (n : Nat) (k : Int) {i : Nat} (h : i < n) : (markLLevel n k).getD i default = mark1Level (k + 2 * (i : Int)) := by
  rw [List.getD_eq_getElem?_getD, markLLevel, List.getElem?_map, List.getElem?_range h]
  rfl
def ac_laws_markLevelS : ACode := q' ([z' 4 0]) (.seq (q' ([z' 5 0]) (.block 0 (.loop (.seq (q' ([m' 6 5, m' 7 0, n' 8 7, r' 9 6 8]) (.cond (.t 9) .skip (.exit 0))) (.seq (.block 1 (q' ([m' 12
  0, m' 13 5, m' 14 1, c' 15 85 [14], i' 16 2 12 13, f' 17 0 16, s' 1 17 15]) (q' ([m' 18 1, a' 19 18, m' 1 19]) (q' ([m' 20 0, m' 21 5, m' 22 1, i' 23 2 20 21,
  f' 24 1 23, s' 1 24 22]) (g' [m' 25 1, a' 26 25, m' 1 26]))))) (g' [m' 10 5, a' 11 10, m' 5 11])))))) (q' ([m' 27 1, m' 4 27]) .ret))
theorem hc_laws_markLevelS : Tryz.f24.body.bind (comp Tryz.prog Tryz.f24.ntmps) = some ac_laws_markLevelS := by kernel_rfl
theorem k_laws_markLevelS (a : List GLevel) (k : Int) (hpre : 0 ≤ k ∧ k + 2 * (a.length : Nat) ≤ 4611686018427387904) : SpecO Tryz.prog 24 [(false, [.sl true [.s [], .i .i64 0] (a.map GLevel.cells)]), (false, [.i .i64 k])] [(0, (false, [.sl true [.s [], .i .i64 0] ((markLLevel a.length k).map GLevel.cells)]))] (.one (false, [.i .i64 (k + 2 * (a.length : Nat))])) := by
  refine spec_of2 true false (some 0) Tryz.func24 hc_laws_markLevelS (rvs := [.t 4]) (hΓ := mkCtx_ok (deep := true) (l := [(85, [], c_laws_markText)]) ⟨c_laws_markText_ok, trivial⟩) (h := ?_)
  intro hb hE
  simp only [go_sem] at hb
  dsimp only [ac_laws_markLevelS, List.map_cons, List.map_nil, m', f', l', e', n', z', b', a', r', s', i', w', c', o', k', g', q']
  (try refine AX_AW ?_); simp only [go_sem]; (repeat' first | apply CJ.mk | intro hc); all_goals try ((repeat' first | apply And.intro | intro hs) <;> (try simp only [go_sem, Bool.and_eq_false_iff] at hs) <;> omega)
  refine aw_loop2 true [] [0] [] [] (fun i : {p : Nat × (List GLevel) // p.1 ≤ a.length ∧ p.2.length = a.length ∧ p.2.take p.1 = (markLLevel a.length k).take p.1} => [(5, slV (.i .i64 i.1.1)), (1, slV (.i .i64 (k + 2 * (i.1.1 : Int))))]) (fun i => []) (fun i => [(1, [.s [], .i .i64 0], i.1.2.map GLevel.cells)]) (fun i => a.length - i.1.1) (⟨(0, a), by simp⟩) _ rfl ?_ ?_
  · simp only [go_sem]
    all_goals first | omega | ((repeat' apply And.intro) <;> first | omega | rfl | skip)
  intro S0 hS0 i
  simp only [go_sem] at hS0
  obtain ⟨⟨i, L⟩, hi, hl, ht⟩ := i
  simp only at hi hl ht
  by_cases hil : (i : Int) < L.length
  · have hgs : ∀ x, (L.set i x).getD i default = x := fun x => by rw [List.getD_eq_getElem?_getD, List.getElem?_set_self (by omega)]; rfl
    have hss : ∀ x y, (L.set i x).set i y = L.set i y := fun x y => List.set_set ..
    have hw0 : IntKind.i64.wrap (k + 2 * (i : Int) + 1) = k + 2 * (i : Int) + 1 := w64 (by omega) (by omega) (by omega)
    have hw1 : IntKind.i64.wrap (k + 2 * (i : Int) + 1 + 1) = k + 2 * (i : Int) + 2 := w64 (by omega) (by omega) (by omega)
    (try refine AX_AW ?_); simp only [go_sem, hS0, hgs, hss, hil, hw0, hw1]; (repeat' first | apply CJ.mk | intro hc); all_goals try ((repeat' first | apply And.intro | intro hs) <;> (try simp only [go_sem, Bool.and_eq_false_iff] at hs) <;> omega)
    (refine lpK_n2 (⟨(i + 1, L.set i (mark1Level (k + 2 * (i : Int)))), by simp only; omega, by simp [hl], by rw [← markLLevel_getD a.length k (show i < a.length by omega)]; exact take_set_succ (by rw [hl, markLLevel_len]) ht (by rw [markLLevel_len]; omega)⟩) _ rfl ?_; simp only [go_sem, hS0, hgs, hss, hil, hw0, hw1]; first | done | ((repeat' apply And.intro) <;> first | omega | (refine w64 ?_ ?_ ?_ <;> omega) | rfl | skip))
    · exact (hc trivial).elim
  · (try refine AX_AW ?_); simp only [go_sem, hS0, hil]; (repeat' first | apply CJ.mk | intro hc); all_goals try ((repeat' first | apply And.intro | intro hs) <;> (try simp only [go_sem, Bool.and_eq_false_iff] at hs) <;> omega)
    obtain rfl : i = a.length := by omega
    obtain rfl := eq_of_take (by rw [hl, markLLevel_len]) ht (by rw [markLLevel_len]; omega)
    exact ⟨rfl, rfl⟩
noncomputable def c_laws_markLevelS : List V → Option (Prop × List (Nat × V) × R) := famP (fun (x : (List GLevel) × Int) h => k_laws_markLevelS x.1 x.2 h)
@[go_sem] theorem c_laws_markLevelS_eq (a : List GLevel) (k : Int) : c_laws_markLevelS [(false, [.sl true [.s [], .i .i64 0] (a.map GLevel.cells)]), (false, [.i .i64 k])] = some (0 ≤ k ∧ k + 2 * (a.length : Nat) ≤ 4611686018427387904, [(0, (false, [.sl true [.s [], .i .i64 0] ((markLLevel a.length k).map GLevel.cells)]))], .one (false, [.i .i64 (k + 2 * (a.length : Nat))])) := famP_eq _ (by rintro ⟨_, _⟩ ⟨_, _⟩ h; simp at h; simp_all) (a, k)
theorem c_laws_markLevelS_ok : ∀ vs q o r, c_laws_markLevelS vs = some (q, o, r) → q → SpecO Tryz.prog 24 vs o r := famP_ok _
def ac_laws_heldLevelS : ACode := q' ([z' 4 0]) (.seq (q' ([z' 5 0]) (.block 0 (.loop (.seq (q' ([m' 6 5, m' 7 0, n' 8 7, r' 9 6 8]) (.cond (.t 9) .skip (.exit 0))) (.seq (.block 1 (.seq (.seq
  (.reg true [m' 12 0, m' 13 5, i' 14 2 12 13, f' 15 0 14, l' 16 15, m' 17 1, c' 18 85 [17], o' 19 (.bin .neq (.t 16) (.t 18))]) (.cond (.t 19) (q' ([o' 4 (.mov
  (.k (.v false [.c (.i .i64 (-1))])))]) .ret) .skip)) (q' ([m' 20 1, a' 21 20, m' 1 21]) (.seq (q' ([m' 22 0, m' 23 5, i' 24 2 22 23, f' 25 1 24, l' 26 25, m'
  27 1, o' 28 (.bin .neq (.t 26) (.t 27))]) (.cond (.t 28) (q' ([o' 4 (.mov (.k (.v false [.c (.i .i64 (-1))])))]) .ret) .skip)) (g' [m' 29 1, a' 30 29, m' 1
  30]))))) (g' [m' 10 5, a' 11 10, m' 5 11])))))) (q' ([m' 31 1, m' 4 31]) .ret))
theorem hc_laws_heldLevelS : Tryz.f25.body.bind (comp Tryz.prog Tryz.f25.ntmps) = some ac_laws_heldLevelS := by kernel_rfl
theorem k_laws_heldLevelS (a : List GLevel) (k : Int) (hpre : (0 ≤ k ∧ k + 2 * (a.length : Nat) ≤ 4611686018427387904) ∧ a = markLLevel a.length k) : SpecO Tryz.prog 25 [(false, [.sl false [.s [], .i .i64 0] (a.map GLevel.cells)]), (false, [.i .i64 k])] [] (.one (false, [.i .i64 (k + 2 * (a.length : Nat))])) := by
  refine spec_of2 false false none Tryz.func25 hc_laws_heldLevelS (rvs := [.t 4]) (hΓ := mkCtx_ok (deep := false) (l := [(85, [], c_laws_markText)]) ⟨c_laws_markText_ok, trivial⟩) (h := ?_)
  intro hb hE
  simp only [go_sem] at hb
  dsimp only [ac_laws_heldLevelS, List.map_cons, List.map_nil, m', f', l', e', n', z', b', a', r', s', i', w', c', o', k', g', q']
  (try refine AX_AW ?_); simp only [go_sem]; (repeat' first | apply CJ.mk | intro hc); all_goals try ((repeat' first | apply And.intro | intro hs) <;> (try simp only [go_sem, Bool.and_eq_false_iff] at hs) <;> omega)
  refine aw_loop2 false [] [0] [] [] (fun i : {i : Nat // i ≤ a.length} => [(5, slV (.i .i64 i.1)), (1, slV (.i .i64 (k + 2 * (i.1 : Int))))]) (fun i => []) (fun i => []) (fun i => a.length - i.1) (⟨0, by omega⟩) _ rfl ?_ ?_
  · simp only [go_sem]
    all_goals first | omega | ((repeat' apply And.intro) <;> first | omega | rfl | skip)
  intro S0 hS0 i
  simp only [go_sem] at hS0
  obtain ⟨i, hi⟩ := i
  by_cases hil : (i : Int) < a.length
  · have hx : a.getD i default = mark1Level (k + 2 * (i : Int)) := by rw [hpre.2]; exact markLLevel_getD _ _ (by omega)
    have hw0 : IntKind.i64.wrap (k + 2 * (i : Int) + 1) = k + 2 * (i : Int) + 1 := w64 (by omega) (by omega) (by omega)
    have hw1 : IntKind.i64.wrap (k + 2 * (i : Int) + 1 + 1) = k + 2 * (i : Int) + 2 := w64 (by omega) (by omega) (by omega)
    (try refine AX_AW ?_); simp only [go_sem, hS0, hil, hx, mark1Level, hw0, hw1]; (repeat' first | apply CJ.mk | intro hc); all_goals try ((repeat' first | apply And.intro | intro hs) <;> (try simp only [go_sem, Bool.and_eq_false_iff] at hs) <;> omega)
    all_goals first
      | (exfalso; simp at hc; done)
      | ((refine lpK_n2 (⟨i + 1, by omega⟩) _ rfl ?_; simp only [go_sem, hS0, hil, hx, mark1Level, hw0, hw1]; first | done | ((repeat' apply And.intro) <;> first | omega | (refine w64 ?_ ?_ ?_ <;> omega) | rfl | skip)); done)
      | trace_state
  · (try refine AX_AW ?_); simp only [go_sem, hS0, hil]; (repeat' first | apply CJ.mk | intro hc); all_goals try ((repeat' first | apply And.intro | intro hs) <;> (try simp only [go_sem, Bool.and_eq_false_iff] at hs) <;> omega)
    all_goals (obtain rfl : i = a.length := by omega)
    all_goals rfl
noncomputable def c_laws_heldLevelS : List V → Option (Prop × List (Nat × V) × R) := famP (fun (x : (List GLevel) × Int) h => k_laws_heldLevelS x.1 x.2 h)
@[go_sem] theorem c_laws_heldLevelS_eq (a : List GLevel) (k : Int) : c_laws_heldLevelS [(false, [.sl false [.s [], .i .i64 0] (a.map GLevel.cells)]), (false, [.i .i64 k])] = some ((0 ≤ k ∧ k + 2 * (a.length : Nat) ≤ 4611686018427387904) ∧ a = markLLevel a.length k, [], .one (false, [.i .i64 (k + 2 * (a.length : Nat))])) := famP_eq _ (by rintro ⟨_, _⟩ ⟨_, _⟩ h; simp at h; simp_all) (a, k)
theorem c_laws_heldLevelS_ok : ∀ vs q o r, c_laws_heldLevelS vs = some (q, o, r) → q → SpecO Tryz.prog 25 vs o r := famP_ok _
end Go.Aw
