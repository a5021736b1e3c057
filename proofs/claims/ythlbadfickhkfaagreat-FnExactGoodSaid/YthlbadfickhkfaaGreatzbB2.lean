/- Terms and rows: sizes, copies, equalities. No condition. -/
import Derived.Test.YthlbadfickhkfaaGreatzbB0
namespace Go.Aw
open Go.Proofs
attribute [local irreducible] aft blk lpK retK AW SpecO
set_option linter.unusedVariables false
set_option linter.unusedSimpArgs false
set_option maxRecDepth 100000
def totTerm (x : GTerm) : Nat := x.Var.length + totValue x.Val
def ac_laws_szTerm : ACode := q' ([o' 2 (.box 3 (.t 0)), z' 4 0]) (q' ([m' 5 1, f' 6 0 2, l' 7 6, o' 8 (.lens (.t 7)), o' 9 (.bin .sub (.t 5) (.t 8)), m' 1 9]) (.seq (q' ([m' 10 1, o' 11
  (.bin .lss (.t 10) (k' 0))]) (.cond (.t 11) (q' ([o' 4 (.mov (.k (.v false [.c (.i .i64 (-1))])))]) .ret) .skip)) (q' ([f' 12 1 2, e' 13 2 12, m' 14 1, c' 15
  241 [13, 14], m' 1 15]) (.seq (q' ([m' 16 1, o' 17 (.bin .lss (.t 16) (k' 0))]) (.cond (.t 17) (q' ([o' 4 (.mov (.k (.v false [.c (.i .i64 (-1))])))]) .ret)
  .skip)) (q' ([m' 18 1, m' 4 18]) .ret)))))
theorem hc_laws_szTerm : Tryz.f263.body.bind (comp Tryz.prog Tryz.f263.ntmps) = some ac_laws_szTerm := by kernel_rfl
theorem k_laws_szTerm (a : GTerm) (left : Int) (hpre : 0 ≤ left ∧ left ≤ 1048576) : SpecO Tryz.prog 263 [(true, [.s a.Var, .i .i64 a.Val.N, .s a.Val.S]), (false, [.i .i64 left])] [] (.one (false, [.i .i64 (szR left (totTerm a : Nat))])) := by
  refine spec_of2 false false none Tryz.func263 hc_laws_szTerm (rvs := [.t 4]) (hΓ := mkCtx_ok (deep := false) (l := [(241, [], c_laws_szValue)]) ⟨c_laws_szValue_ok, trivial⟩) (h := ?_)
  intro hb hE
  simp only [go_sem] at hb
  dsimp only [ac_laws_szTerm, List.map_cons, List.map_nil, m', f', l', e', n', z', b', a', r', s', i', w', c', o', k', g', q']
  (try refine AX_AW ?_); simp only [go_sem]; (repeat' first | apply CJ.mk | intro hc); all_goals try ((repeat' first | apply And.intro | intro hs) <;> (try simp only [go_sem, Bool.and_eq_false_iff] at hs) <;> omega)
  all_goals ((repeat (simp (disch := omega) only [wsub] at *)) <;> (try simp only [szR, totTerm] at *) <;> (first | omega | (split <;> omega)))
noncomputable def c_laws_szTerm : List V → Option (Prop × List (Nat × V) × R) := famP (fun (x : GTerm × Int) h => k_laws_szTerm x.1 x.2 h)
@[go_sem] theorem c_laws_szTerm_eq (a_Var : List UInt8) (a_Val_N : Int) (a_Val_S : List UInt8) (left : Int) : c_laws_szTerm [(true, [.s a_Var, .i .i64 a_Val_N, .s a_Val_S]), (false, [.i .i64 left])] = some (0 ≤ left ∧ left ≤ 1048576, [], .one (false, [.i .i64 (szR left (totTerm (GTerm.mk a_Var (GValue.mk a_Val_N a_Val_S)) : Nat))])) := famP_eq _ (by rintro ⟨⟨_, ⟨_, _⟩⟩, _⟩ ⟨⟨_, ⟨_, _⟩⟩, _⟩ h; simp at h; simp_all) ((GTerm.mk a_Var (GValue.mk a_Val_N a_Val_S)), left)
theorem c_laws_szTerm_ok : ∀ vs q o r, c_laws_szTerm vs = some (q, o, r) → q → SpecO Tryz.prog 263 vs o r := famP_ok _
def ac_laws_szTermS : ACode := q' ([z' 4 0]) (q' ([m' 6 1, m' 7 0, n' 8 7, o' 9 (.bin .sub (.t 6) (.t 8)), m' 1 9]) (.seq (q' ([m' 10 1, o' 11 (.bin .lss (.t 10) (k' 0))]) (.cond (.t 11) (q'
  ([o' 4 (.mov (.k (.v false [.c (.i .i64 (-1))])))]) .ret) .skip)) (.seq (q' ([z' 5 0]) (.block 0 (.loop (.seq (q' ([m' 12 5, m' 13 0, n' 14 13, r' 15 12 14])
  (.cond (.t 15) .skip (.exit 0))) (.seq (.block 1 (q' ([m' 18 0, m' 19 5, i' 20 3 18 19, e' 21 3 20, m' 22 1, c' 23 263 [21, 22], m' 1 23]) (q' ([m' 24 1, o'
  25 (.bin .lss (.t 24) (k' 0))]) (.cond (.t 25) (q' ([o' 4 (.mov (.k (.v false [.c (.i .i64 (-1))])))]) .ret) .skip)))) (g' [m' 16 5, a' 17 16, m' 5 17]))))))
  (q' ([m' 26 1, m' 4 26]) .ret))))
theorem hc_laws_szTermS : Tryz.f178.body.bind (comp Tryz.prog Tryz.f178.ntmps) = some ac_laws_szTermS := by kernel_rfl
theorem k_laws_szTermS (a : List GTerm) (left : Int) (hpre : 0 ≤ left ∧ left ≤ 1048576) : SpecO Tryz.prog 178 [(false, [.sl false [.s [], .i .i64 0, .s []] (a.map GTerm.cells)]), (false, [.i .i64 left])] [] (.one (false, [.i .i64 (szR left ((a.length + tots totTerm a) : Nat))])) := by
  refine spec_of2 false false none Tryz.func178 hc_laws_szTermS (rvs := [.t 4]) (hΓ := mkCtx_ok (deep := false) (l := [(263, [], c_laws_szTerm)]) ⟨c_laws_szTerm_ok, trivial⟩) (h := ?_)
  intro hb hE
  simp only [go_sem] at hb
  dsimp only [ac_laws_szTermS, List.map_cons, List.map_nil, m', f', l', e', n', z', b', a', r', s', i', w', c', o', k', g', q']
  (try refine AX_AW ?_); simp only [go_sem]; (repeat' first | apply CJ.mk | intro hc); all_goals try ((repeat' first | apply And.intro | intro hs) <;> (try simp only [go_sem, Bool.and_eq_false_iff] at hs) <;> omega)
  · all_goals ((repeat (simp (disch := omega) only [wsub] at *)) <;> (try simp only [szR, szR] at *) <;> (first | omega | (split <;> omega)))
  have hw := wsub (l := left) (n := a.length) (by omega) (by omega) (by omega) (by omega)
  rw [hw] at hc
  refine aw_loop2 false [] [0] [] [] (fun i : {i : Nat // i ≤ a.length ∧ (a.length : Int) + (tots totTerm (a.take i) : Nat) ≤ left} => [(5, slV (.i .i64 i.1)), (1, slV (.i .i64 (left - a.length - (tots totTerm (a.take i.1) : Nat))))]) (fun i => []) (fun i => []) (fun i => a.length - i.1) (⟨0, by simp only [List.take_zero, tots_nil]; omega⟩) _ rfl ?_ ?_
  · simp only [go_sem, hw]
    all_goals first | omega | ((repeat' apply And.intro) <;> first | omega | rfl | skip)
  intro S0 hS0 i
  simp only [go_sem, hw] at hS0
  obtain ⟨i, hi, ht⟩ := i
  (try refine AX_AW ?_); simp only [go_sem, hw, hS0]; (repeat' first | apply CJ.mk | intro hc); all_goals try ((repeat' first | apply And.intro | intro hs) <;> (try simp only [go_sem, Bool.and_eq_false_iff] at hs) <;> omega)
  · have h1 := tots_take_succ totTerm (default : GTerm) (show i < a.length by omega)
    have h2 := tots_take_le totTerm a (i + 1)
    all_goals ((repeat (simp (disch := omega) only [wsub] at *)) <;> (try simp only [szR, szR] at *) <;> (first | omega | (split <;> omega)))
  · have h1 := tots_take_succ totTerm (default : GTerm) (show i < a.length by omega)
    (refine lpK_n2 (⟨i + 1, by omega, by unfold szR at hc; split at hc <;> omega⟩) _ rfl ?_; simp only [go_sem, hw, hS0]; first | done | ((repeat' apply And.intro) <;> first | omega | (refine w64 ?_ ?_ ?_ <;> omega) | rfl | skip))
    rw [h1]
    unfold szR at hc ⊢
    split at hc <;> omega
  · have h1 := tots_all totTerm (show ¬ i < a.length by omega)
    all_goals ((repeat (simp (disch := omega) only [wsub] at *)) <;> (try simp only [szR, szR] at *) <;> (first | omega | (split <;> omega)))
  all_goals all_goals ((repeat (simp (disch := omega) only [wsub] at *)) <;> (try simp only [szR, szR] at *) <;> (first | omega | (split <;> omega)))
noncomputable def c_laws_szTermS : List V → Option (Prop × List (Nat × V) × R) := famP (fun (x : (List GTerm) × Int) h => k_laws_szTermS x.1 x.2 h)
@[go_sem] theorem c_laws_szTermS_eq (a : List GTerm) (left : Int) : c_laws_szTermS [(false, [.sl false [.s [], .i .i64 0, .s []] (a.map GTerm.cells)]), (false, [.i .i64 left])] = some (0 ≤ left ∧ left ≤ 1048576, [], .one (false, [.i .i64 (szR left ((a.length + tots totTerm a) : Nat))])) := famP_eq _ (by rintro ⟨_, _⟩ ⟨_, _⟩ h; simp at h; simp_all) (a, left)
theorem c_laws_szTermS_ok : ∀ vs q o r, c_laws_szTermS vs = some (q, o, r) → q → SpecO Tryz.prog 178 vs o r := famP_ok _
def ac_laws_toTerm : ACode := q' ([o' 1 (.box 3 (.t 0)), w' 2 [.s, .i .i64, .s]]) (q' ([w' 3 [.s, .i .i64, .s]]) (q' ([f' 4 0 1, l' 5 4, f' 6 0 3, s' 1 6 5]) (q' ([f' 7 1 1, e' 8 2 7, c' 9
  243 [8], f' 10 1 3, s' 2 10 9]) (q' ([e' 11 3 3, s' 3 2 11]) .ret))))
theorem hc_laws_toTerm : Tryz.f272.body.bind (comp Tryz.prog Tryz.f272.ntmps) = some ac_laws_toTerm := by kernel_rfl
theorem k_laws_toTerm (a : GTerm) : SpecO Tryz.prog 272 [(true, [.s a.Var, .i .i64 a.Val.N, .s a.Val.S])] [] (.one (true, [.s a.Var, .i .i64 a.Val.N, .s a.Val.S])) := by
  refine spec_of2 true false none Tryz.func272 hc_laws_toTerm (rvs := [.c 2 true 3]) (hΓ := mkCtx_ok (deep := true) (l := [(243, [], c_laws_toValue)]) ⟨c_laws_toValue_ok, trivial⟩) (h := ?_)
  intro hb hE
  simp only [go_sem] at hb
  dsimp only [ac_laws_toTerm, List.map_cons, List.map_nil, m', f', l', e', n', z', b', a', r', s', i', w', c', o', k', g', q']
  (try refine AX_AW ?_); simp only [go_sem]; (repeat' first | apply CJ.mk | intro hc); all_goals try ((repeat' first | apply And.intro | intro hs) <;> (try simp only [go_sem, Bool.and_eq_false_iff] at hs) <;> omega)
noncomputable def c_laws_toTerm : List V → Option (Prop × List (Nat × V) × R) := famQ (fun (x : GTerm) => k_laws_toTerm x)
@[go_sem] theorem c_laws_toTerm_eq (a_Var : List UInt8) (a_Val_N : Int) (a_Val_S : List UInt8) : c_laws_toTerm [(true, [.s a_Var, .i .i64 a_Val_N, .s a_Val_S])] = some (True, [], .one (true, [.s ((GTerm.mk a_Var (GValue.mk a_Val_N a_Val_S)).Var), .i .i64 (((GTerm.mk a_Var (GValue.mk a_Val_N a_Val_S)).Val).N), .s (((GTerm.mk a_Var (GValue.mk a_Val_N a_Val_S)).Val).S)])) := famQ_eq _ (by rintro ⟨_, ⟨_, _⟩⟩ ⟨_, ⟨_, _⟩⟩ h; simp at h; simp_all) (GTerm.mk a_Var (GValue.mk a_Val_N a_Val_S))
theorem c_laws_toTerm_ok : ∀ vs q o r, c_laws_toTerm vs = some (q, o, r) → q → SpecO Tryz.prog 272 vs o r := famQ_ok _
def ac_laws_toTermS : ACode := q' ([o' 2 (.mov (.k (.v false [.nl [.s [], .i .i64 0, .s []]])))]) (q' ([m' 5 0, n' 6 5, o' 7 (.mks 3 40 [.s, .i .i64, .s] (.t 6) (.t 6)), m' 3 7]) (.seq (q'
  ([z' 4 0]) (.block 0 (.loop (.seq (q' ([m' 8 4, m' 9 0, n' 10 9, r' 11 8 10]) (.cond (.t 11) .skip (.exit 0))) (.seq (.block 1 (g' [m' 14 3, m' 15 4, m' 16 0,
  m' 17 4, i' 18 3 16 17, e' 19 3 18, c' 20 272 [19], i' 21 3 14 15, s' 3 21 20])) (g' [m' 12 4, a' 13 12, m' 4 13])))))) (q' ([m' 22 3, m' 2 22]) .ret)))
theorem hc_laws_toTermS : Tryz.f189.body.bind (comp Tryz.prog Tryz.f189.ntmps) = some ac_laws_toTermS := by kernel_rfl
theorem k_laws_toTermS (a : List GTerm) (hpre : (((a.length + tots totTerm a) : Nat) : Int) ≤ 1048576) : SpecO Tryz.prog 189 [(false, [.sl false [.s [], .i .i64 0, .s []] (a.map GTerm.cells)])] [] (.one (false, [.sl true [.s [], .i .i64 0, .s []] (a.map GTerm.cells)])) := by
  refine spec_of2 true false none Tryz.func189 hc_laws_toTermS (rvs := [.t 2]) (hΓ := mkCtx_ok (deep := true) (l := [(272, [], c_laws_toTerm)]) ⟨c_laws_toTerm_ok, trivial⟩) (h := ?_)
  intro hb hE
  simp only [go_sem] at hb
  dsimp only [ac_laws_toTermS, List.map_cons, List.map_nil, m', f', l', e', n', z', b', a', r', s', i', w', c', o', k', g', q']
  (try refine AX_AW ?_); simp only [go_sem, GTerm_rep]; (repeat' first | apply CJ.mk | intro hc); all_goals try ((repeat' first | apply And.intro | intro hs) <;> (try simp only [go_sem, Bool.and_eq_false_iff] at hs) <;> omega)
  refine aw_loop2 true [] [0, 3] [] [] (fun i : {p : Nat × (List GTerm) // p.1 ≤ a.length ∧ p.2.length = a.length ∧ p.2.take p.1 = a.take p.1} => [(4, slV (.i .i64 i.1.1))]) (fun i => []) (fun i => [(896, [.s [], .i .i64 0, .s []], i.1.2.map GTerm.cells)]) (fun i => a.length - i.1.1) (⟨(0, List.replicate a.length default), by simp⟩) _ rfl ?_ ?_
  · simp only [go_sem, GTerm_rep]
    all_goals first | omega | ((repeat' apply And.intro) <;> first | omega | rfl | skip)
  intro S0 hS0 i
  simp only [go_sem, GTerm_rep] at hS0
  obtain ⟨⟨i, L⟩, hi, hl, ht⟩ := i
  simp only at hi hl ht
  (try refine AX_AW ?_); simp only [go_sem, GTerm_rep, hS0]; (repeat' first | apply CJ.mk | intro hc); all_goals try ((repeat' first | apply And.intro | intro hs) <;> (try simp only [go_sem, Bool.and_eq_false_iff] at hs) <;> omega)
  · (refine lpK_n2 (⟨(i + 1, L.set i (a.getD i default)), by simp only; omega, by simp [hl], take_set_succ hl ht (by omega)⟩) _ rfl ?_; simp only [go_sem, GTerm_rep, hS0]; first | done | ((repeat' apply And.intro) <;> first | omega | (refine w64 ?_ ?_ ?_ <;> omega) | rfl | skip))
  · obtain rfl := eq_of_take hl ht (by omega)
    rfl
  all_goals trace_state
noncomputable def c_laws_toTermS : List V → Option (Prop × List (Nat × V) × R) := famP (fun (x : (List GTerm)) h => k_laws_toTermS x h)
@[go_sem] theorem c_laws_toTermS_eq (a : List GTerm) : c_laws_toTermS [(false, [.sl false [.s [], .i .i64 0, .s []] (a.map GTerm.cells)])] = some ((((a.length + tots totTerm a) : Nat) : Int) ≤ 1048576, [], .one (false, [.sl true [.s [], .i .i64 0, .s []] (a.map GTerm.cells)])) := famP_eq _ (by intro x y h; simp at h; simp_all) a
theorem c_laws_toTermS_ok : ∀ vs q o r, c_laws_toTermS vs = some (q, o, r) → q → SpecO Tryz.prog 189 vs o r := famP_ok _
def ac_laws_eqTerm : ACode := q' ([o' 2 (.box 3 (.t 0)), o' 3 (.box 3 (.t 1)), b' 4 false]) (.seq (q' ([f' 5 0 2, l' 6 5, f' 7 0 3, l' 8 7, o' 9 (.bin .neq (.t 6) (.t 8))]) (.cond (.t 9) (q'
  ([b' 4 false]) .ret) .skip)) (.seq (q' ([f' 10 1 2, e' 11 2 10, f' 12 1 3, e' 13 2 12, c' 14 247 [11, 13], o' 15 (.not (.t 14))]) (.cond (.t 15) (q' ([b' 4
  false]) .ret) .skip)) (q' ([b' 4 true]) .ret)))
theorem hc_laws_eqTerm : Tryz.f289.body.bind (comp Tryz.prog Tryz.f289.ntmps) = some ac_laws_eqTerm := by kernel_rfl
theorem k_laws_eqTerm (a : GTerm) (b : GTerm) : SpecO Tryz.prog 289 [(true, [.s a.Var, .i .i64 a.Val.N, .s a.Val.S]), (true, [.s b.Var, .i .i64 b.Val.N, .s b.Val.S])] [] (.one (false, [.b (decide (a = b))])) := by
  refine spec_of2 false false none Tryz.func289 hc_laws_eqTerm (rvs := [.t 4]) (hΓ := mkCtx_ok (deep := false) (l := [(247, [], c_laws_eqValue)]) ⟨c_laws_eqValue_ok, trivial⟩) (h := ?_)
  intro hb hE
  simp only [go_sem] at hb
  dsimp only [ac_laws_eqTerm, List.map_cons, List.map_nil, m', f', l', e', n', z', b', a', r', s', i', w', c', o', k', g', q']
  (try refine AX_AW ?_); simp only [go_sem]; (repeat' first | apply CJ.mk | intro hc); all_goals try ((repeat' first | apply And.intro | intro hs) <;> (try simp only [go_sem, Bool.and_eq_false_iff] at hs) <;> omega)
  all_goals (cases a; cases b; simp_all)
noncomputable def c_laws_eqTerm : List V → Option (Prop × List (Nat × V) × R) := famQ (fun (x : GTerm × GTerm) => k_laws_eqTerm x.1 x.2)
@[go_sem] theorem c_laws_eqTerm_eq (a_Var : List UInt8) (a_Val_N : Int) (a_Val_S : List UInt8) (b_Var : List UInt8) (b_Val_N : Int) (b_Val_S : List UInt8) : c_laws_eqTerm [(true, [.s a_Var, .i .i64 a_Val_N, .s a_Val_S]), (true, [.s b_Var, .i .i64 b_Val_N, .s b_Val_S])] = some (True, [], .one (false, [.b (decide ((GTerm.mk a_Var (GValue.mk a_Val_N a_Val_S)) = (GTerm.mk b_Var (GValue.mk b_Val_N b_Val_S))))])) := famQ_eq _ (by rintro ⟨⟨_, ⟨_, _⟩⟩, ⟨_, ⟨_, _⟩⟩⟩ ⟨⟨_, ⟨_, _⟩⟩, ⟨_, ⟨_, _⟩⟩⟩ h; simp at h; simp_all) ((GTerm.mk a_Var (GValue.mk a_Val_N a_Val_S)), (GTerm.mk b_Var (GValue.mk b_Val_N b_Val_S)))
theorem c_laws_eqTerm_ok : ∀ vs q o r, c_laws_eqTerm vs = some (q, o, r) → q → SpecO Tryz.prog 289 vs o r := famQ_ok _
def ac_laws_eqTermS : ACode := q' ([b' 4 false]) (.seq (q' ([m' 6 0, n' 7 6, m' 8 1, n' 9 8, o' 10 (.bin .neq (.t 7) (.t 9))]) (.cond (.t 10) (q' ([b' 4 false]) .ret) .skip)) (.seq (q' ([z' 5
  0]) (.block 0 (.loop (.seq (q' ([m' 11 5, m' 12 0, n' 13 12, r' 14 11 13]) (.cond (.t 14) .skip (.exit 0))) (.seq (.block 1 (.seq (.reg true [m' 17 0, m' 18
  5, i' 19 3 17 18, e' 20 3 19, m' 21 1, m' 22 5, i' 23 3 21 22, e' 24 3 23, c' 25 289 [20, 24], o' 26 (.not (.t 25))]) (.cond (.t 26) (q' ([b' 4 false]) .ret)
  .skip))) (g' [m' 15 5, a' 16 15, m' 5 16])))))) (q' ([b' 4 true]) .ret)))
theorem hc_laws_eqTermS : Tryz.f205.body.bind (comp Tryz.prog Tryz.f205.ntmps) = some ac_laws_eqTermS := by kernel_rfl
theorem k_laws_eqTermS (a : List GTerm) (b : List GTerm) : SpecO Tryz.prog 205 [(false, [.sl false [.s [], .i .i64 0, .s []] (a.map GTerm.cells)]), (false, [.sl false [.s [], .i .i64 0, .s []] (b.map GTerm.cells)])] [] (.one (false, [.b (decide (a = b))])) := by
  refine spec_of2 false false none Tryz.func205 hc_laws_eqTermS (rvs := [.t 4]) (hΓ := mkCtx_ok (deep := false) (l := [(289, [], c_laws_eqTerm)]) ⟨c_laws_eqTerm_ok, trivial⟩) (h := ?_)
  intro hb hE
  simp only [go_sem] at hb
  dsimp only [ac_laws_eqTermS, List.map_cons, List.map_nil, m', f', l', e', n', z', b', a', r', s', i', w', c', o', k', g', q']
  (try refine AX_AW ?_); simp only [go_sem]; (repeat' first | apply CJ.mk | intro hc); all_goals try ((repeat' first | apply And.intro | intro hs) <;> (try simp only [go_sem, Bool.and_eq_false_iff] at hs) <;> omega)
  · symm
    rw [decide_eq_false_iff_not]
    rintro rfl
    simp at hc
  have hl : a.length = b.length := by simpa [Int.ofNat_inj] using hc
  refine aw_loop2 false [] [0, 1] [] [] (fun i : {i : Nat // i ≤ a.length ∧ a.take i = b.take i} => [(5, slV (.i .i64 i.1))]) (fun i => []) (fun i => []) (fun i => a.length - i.1) (⟨0, by simp⟩) _ rfl ?_ ?_
  · simp only [go_sem]
    all_goals first | omega | ((repeat' apply And.intro) <;> first | omega | rfl | skip)
  intro S0 hS0 i
  simp only [go_sem] at hS0
  obtain ⟨i, hi, ht⟩ := i
  (try refine AX_AW ?_); simp only [go_sem, hS0]; (repeat' first | apply CJ.mk | intro hc); all_goals try ((repeat' first | apply And.intro | intro hs) <;> (try simp only [go_sem, Bool.and_eq_false_iff] at hs) <;> omega)
  · exact (decide_eq_false (ne_of_getD default (i := i) (by simpa using hc))).symm
  · (refine lpK_n2 (⟨i + 1, by omega, take_succ_eq ht (by omega) (by omega) (d := default) (by simpa using hc)⟩) _ rfl ?_; simp only [go_sem, hS0]; first | done | ((repeat' apply And.intro) <;> first | omega | (refine w64 ?_ ?_ ?_ <;> omega) | rfl | skip))
  · exact (decide_eq_true (eq_of_take hl ht (by omega))).symm
  all_goals trace_state
noncomputable def c_laws_eqTermS : List V → Option (Prop × List (Nat × V) × R) := famQ (fun (x : (List GTerm) × (List GTerm)) => k_laws_eqTermS x.1 x.2)
@[go_sem] theorem c_laws_eqTermS_eq (a : List GTerm) (b : List GTerm) : c_laws_eqTermS [(false, [.sl false [.s [], .i .i64 0, .s []] (a.map GTerm.cells)]), (false, [.sl false [.s [], .i .i64 0, .s []] (b.map GTerm.cells)])] = some (True, [], .one (false, [.b (decide (a = b))])) := famQ_eq _ (by rintro ⟨_, _⟩ ⟨_, _⟩ h; simp at h; simp_all) (a, b)
theorem c_laws_eqTermS_ok : ∀ vs q o r, c_laws_eqTermS vs = some (q, o, r) → q → SpecO Tryz.prog 205 vs o r := famQ_ok _
end Go.Aw
