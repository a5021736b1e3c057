/- Terms and rows: sizes, copies, equalities. No condition. -/
import Derived.Test.YtojlgbkikicklaaGreatzcB0
namespace Go.Aw
open Go.Proofs
attribute [local irreducible] aft blk lpK retK AW SpecO
set_option linter.unusedVariables false
set_option linter.unusedSimpArgs false
set_option maxRecDepth 100000
def totTerm (x : GTerm) : Nat := x.Var.length + totValue x.Val
def ac_laws_szTerm : ACode := .seq (.reg false [⟨some 2, .box 3 (.t 0), none⟩, ⟨some 4, .mov (.k (.v false [.c (.i .i64 0)])), none⟩]) (.seq (.reg false [⟨some 5, .mov (.t 1), none⟩, ⟨some
  6, .fa 0 (.t 2), none⟩, ⟨some 7, .ld false 1 (.t 6), none⟩, ⟨some 8, .lens (.t 7), none⟩, ⟨some 9, .bin .sub (.t 5) (.t 8), none⟩, ⟨some 1, .mov (.t 9),
  none⟩]) (.seq (.seq (.reg false [⟨some 10, .mov (.t 1), none⟩, ⟨some 11, .bin .lss (.t 10) (.k (.v false [.c (.i .i64 0)])), none⟩]) (.cond (.t 11) (.seq
  (.reg false [⟨some 4, .mov (.k (.v false [.c (.i .i64 (-1))])), none⟩]) .ret) .skip)) (.seq (.reg false [⟨some 12, .fa 1 (.t 2), none⟩, ⟨some 13, .ld true 2
  (.t 12), none⟩, ⟨some 14, .mov (.t 1), none⟩, ⟨some 15, .call 253 [.t 13, .t 14], none⟩, ⟨some 1, .mov (.t 15), none⟩]) (.seq (.seq (.reg false [⟨some 16,
  .mov (.t 1), none⟩, ⟨some 17, .bin .lss (.t 16) (.k (.v false [.c (.i .i64 0)])), none⟩]) (.cond (.t 17) (.seq (.reg false [⟨some 4, .mov (.k (.v false [.c
  (.i .i64 (-1))])), none⟩]) .ret) .skip)) (.seq (.reg false [⟨some 18, .mov (.t 1), none⟩, ⟨some 4, .mov (.t 18), none⟩]) .ret)))))
theorem hc_laws_szTerm : Tryz.f311.body.bind (comp Tryz.prog Tryz.f311.ntmps) = some ac_laws_szTerm := by kernel_rfl
theorem k_laws_szTerm (a : GTerm) (left : Int) (hpre : 0 ≤ left ∧ left ≤ 1048576) : SpecO Tryz.prog 311 [(true, [.s a.Var, .i .i64 a.Val.N, .s a.Val.S]), (false, [.i .i64 left])] [] (.one (false, [.i .i64 (szR left (totTerm a : Nat))])) := by
  refine spec_of2 false false none Tryz.func311 hc_laws_szTerm (rvs := [.t 4]) (hΓ := mkCtx_ok (deep := false) (l := [(253, [], c_laws_szValue)]) ⟨c_laws_szValue_ok, trivial⟩) (h := ?_)
  intro hb hE
  simp only [go_sem] at hb
  unfold ac_laws_szTerm
  (try refine AX_AW ?_); simp only [go_sem]; (repeat' first | apply CJ.mk | intro hc); all_goals try ((repeat' first | apply And.intro | intro hs) <;> (try simp only [go_sem, Bool.and_eq_false_iff] at hs) <;> omega)
  all_goals ((repeat (simp (disch := omega) only [wsub] at *)) <;> (try simp only [szR, totTerm] at *) <;> (first | omega | (split <;> omega)))
noncomputable def c_laws_szTerm : List V → Option (Prop × List (Nat × V) × R) := famP (fun (x : GTerm × Int) h => k_laws_szTerm x.1 x.2 h)
@[go_sem] theorem c_laws_szTerm_eq (a_Var : List UInt8) (a_Val_N : Int) (a_Val_S : List UInt8) (left : Int) : c_laws_szTerm [(true, [.s a_Var, .i .i64 a_Val_N, .s a_Val_S]), (false, [.i .i64 left])] = some (0 ≤ left ∧ left ≤ 1048576, [], .one (false, [.i .i64 (szR left (totTerm (GTerm.mk a_Var (GValue.mk a_Val_N a_Val_S)) : Nat))])) := famP_eq _ (by rintro ⟨⟨_, ⟨_, _⟩⟩, _⟩ ⟨⟨_, ⟨_, _⟩⟩, _⟩ h; simp at h; simp_all) ((GTerm.mk a_Var (GValue.mk a_Val_N a_Val_S)), left)
theorem c_laws_szTerm_ok : ∀ vs q o r, c_laws_szTerm vs = some (q, o, r) → q → SpecO Tryz.prog 311 vs o r := famP_ok _
def ac_laws_szTermS : ACode := .seq (.reg false [⟨some 4, .mov (.k (.v false [.c (.i .i64 0)])), none⟩]) (.seq (.reg false [⟨some 6, .mov (.t 1), none⟩, ⟨some 7, .mov (.t 0), none⟩, ⟨some 8,
  .len (.t 7), none⟩, ⟨some 9, .bin .sub (.t 6) (.t 8), none⟩, ⟨some 1, .mov (.t 9), none⟩]) (.seq (.seq (.reg false [⟨some 10, .mov (.t 1), none⟩, ⟨some 11,
  .bin .lss (.t 10) (.k (.v false [.c (.i .i64 0)])), none⟩]) (.cond (.t 11) (.seq (.reg false [⟨some 4, .mov (.k (.v false [.c (.i .i64 (-1))])), none⟩]) .ret)
  .skip)) (.seq (.seq (.reg false [⟨some 5, .mov (.k (.v false [.c (.i .i64 0)])), none⟩]) (.block 0 (.loop (.seq (.seq (.reg false [⟨some 12, .mov (.t 5),
  none⟩, ⟨some 13, .mov (.t 0), none⟩, ⟨some 14, .len (.t 13), none⟩, ⟨some 15, .bin .lss (.t 12) (.t 14), none⟩]) (.cond (.t 15) .skip (.exit 0))) (.seq
  (.block 1 (.seq (.reg false [⟨some 18, .mov (.t 0), none⟩, ⟨some 19, .mov (.t 5), none⟩, ⟨some 20, .ia 3 (.t 18) (.t 19), none⟩, ⟨some 21, .ld true 3 (.t 20),
  none⟩, ⟨some 22, .mov (.t 1), none⟩, ⟨some 23, .call 311 [.t 21, .t 22], none⟩, ⟨some 1, .mov (.t 23), none⟩]) (.seq (.reg false [⟨some 24, .mov (.t 1),
  none⟩, ⟨some 25, .bin .lss (.t 24) (.k (.v false [.c (.i .i64 0)])), none⟩]) (.cond (.t 25) (.seq (.reg false [⟨some 4, .mov (.k (.v false [.c (.i .i64
  (-1))])), none⟩]) .ret) .skip)))) (.reg false [⟨some 16, .mov (.t 5), none⟩, ⟨some 17, .bin .add (.t 16) (.k (.v false [.c (.i .i64 1)])), none⟩, ⟨some 5,
  .mov (.t 17), none⟩])))))) (.seq (.reg false [⟨some 26, .mov (.t 1), none⟩, ⟨some 4, .mov (.t 26), none⟩]) .ret))))
theorem hc_laws_szTermS : Tryz.f269.body.bind (comp Tryz.prog Tryz.f269.ntmps) = some ac_laws_szTermS := by kernel_rfl
theorem k_laws_szTermS (a : List GTerm) (left : Int) (hpre : 0 ≤ left ∧ left ≤ 1048576) : SpecO Tryz.prog 269 [(false, [.sl false [.s [], .i .i64 0, .s []] (a.map GTerm.cells)]), (false, [.i .i64 left])] [] (.one (false, [.i .i64 (szR left ((a.length + tots totTerm a) : Nat))])) := by
  refine spec_of2 false false none Tryz.func269 hc_laws_szTermS (rvs := [.t 4]) (hΓ := mkCtx_ok (deep := false) (l := [(311, [], c_laws_szTerm)]) ⟨c_laws_szTerm_ok, trivial⟩) (h := ?_)
  intro hb hE
  simp only [go_sem] at hb
  unfold ac_laws_szTermS
  (try refine AX_AW ?_); simp only [go_sem]; (repeat' first | apply CJ.mk | intro hc); all_goals try ((repeat' first | apply And.intro | intro hs) <;> (try simp only [go_sem, Bool.and_eq_false_iff] at hs) <;> omega)
  · all_goals ((repeat (simp (disch := omega) only [wsub] at *)) <;> (try simp only [szR, szR] at *) <;> (first | omega | (split <;> omega)))
  have hw := wsub (l := left) (n := a.length) (by omega) (by omega) (by omega) (by omega)
  rw [hw] at hc
  refine aw_loop2 false [] [0] [] [] (fun i : {i : Nat // i ≤ a.length ∧ (a.length : Int) + (tots totTerm (a.take i) : Nat) ≤ left} => [(5, slV (.i .i64 i.1)), (1, slV (.i .i64 (left - a.length - (tots totTerm (a.take i.1) : Nat))))]) (fun i => []) (fun i => []) (fun i => a.length - i.1) (⟨0, by simp only [List.take_zero, tots_nil]; omega⟩) _ rfl ?_ ?_
  · simp only [go_sem, hw]
    all_goals first | omega | ((repeat' apply And.intro) <;> first | omega | rfl | skip)
  intro S0 hS0 i
  simp only [go_sem, hw] at hS0
  obtain ⟨i, hi, ht⟩ := i
  (try refine AX_AW ?_); simp only [go_sem, hw, hS0]; (repeat' first | apply CJ.mk | intro hc); all_goals try ((repeat' first | apply And.intro | intro hs) <;> (try simp only [go_sem, Bool.and_eq_false_iff] at hs) <;> omega)
  · have h1 := tots_take_succ totTerm (default : GTerm) (show i < a.length by omega)
    have h2 := tots_take_le totTerm a (i + 1)
    all_goals ((repeat (simp (disch := omega) only [wsub] at *)) <;> (try simp only [szR, szR] at *) <;> (first | omega | (split <;> omega)))
  · have h1 := tots_take_succ totTerm (default : GTerm) (show i < a.length by omega)
    (refine lpK_n2 (⟨i + 1, by omega, by unfold szR at hc; split at hc <;> omega⟩) _ rfl ?_; simp only [go_sem, hw, hS0]; first | done | ((repeat' apply And.intro) <;> first | omega | (refine w64 ?_ ?_ ?_ <;> omega) | rfl | skip))
    rw [h1]
    unfold szR at hc ⊢
    split at hc <;> omega
  · have h1 := tots_all totTerm (show ¬ i < a.length by omega)
    all_goals ((repeat (simp (disch := omega) only [wsub] at *)) <;> (try simp only [szR, szR] at *) <;> (first | omega | (split <;> omega)))
  all_goals all_goals ((repeat (simp (disch := omega) only [wsub] at *)) <;> (try simp only [szR, szR] at *) <;> (first | omega | (split <;> omega)))
noncomputable def c_laws_szTermS : List V → Option (Prop × List (Nat × V) × R) := famP (fun (x : (List GTerm) × Int) h => k_laws_szTermS x.1 x.2 h)
@[go_sem] theorem c_laws_szTermS_eq (a : List GTerm) (left : Int) : c_laws_szTermS [(false, [.sl false [.s [], .i .i64 0, .s []] (a.map GTerm.cells)]), (false, [.i .i64 left])] = some (0 ≤ left ∧ left ≤ 1048576, [], .one (false, [.i .i64 (szR left ((a.length + tots totTerm a) : Nat))])) := famP_eq _ (by rintro ⟨_, _⟩ ⟨_, _⟩ h; simp at h; simp_all) (a, left)
theorem c_laws_szTermS_ok : ∀ vs q o r, c_laws_szTermS vs = some (q, o, r) → q → SpecO Tryz.prog 269 vs o r := famP_ok _
def ac_laws_toTerm : ACode := .seq (.reg false [⟨some 1, .box 3 (.t 0), none⟩, ⟨some 2, .alloc [.s, .i .i64, .s], none⟩]) (.seq (.reg false [⟨some 3, .alloc [.s, .i .i64, .s], none⟩]) (.seq
  (.reg false [⟨some 4, .fa 0 (.t 1), none⟩, ⟨some 5, .ld false 1 (.t 4), none⟩, ⟨some 6, .fa 0 (.t 3), none⟩, ⟨none, .st 1 (.t 6) (.t 5), none⟩]) (.seq (.reg
  false [⟨some 7, .fa 1 (.t 1), none⟩, ⟨some 8, .ld true 2 (.t 7), none⟩, ⟨some 9, .call 255 [.t 8], none⟩, ⟨some 10, .fa 1 (.t 3), none⟩, ⟨none, .st 2 (.t 10)
  (.t 9), none⟩]) (.seq (.reg false [⟨some 11, .ld true 3 (.t 3), none⟩, ⟨none, .st 3 (.t 2) (.t 11), none⟩]) .ret))))
theorem hc_laws_toTerm : Tryz.f312.body.bind (comp Tryz.prog Tryz.f312.ntmps) = some ac_laws_toTerm := by kernel_rfl
theorem k_laws_toTerm (a : GTerm) : SpecO Tryz.prog 312 [(true, [.s a.Var, .i .i64 a.Val.N, .s a.Val.S])] [] (.one (true, [.s a.Var, .i .i64 a.Val.N, .s a.Val.S])) := by
  refine spec_of2 true false none Tryz.func312 hc_laws_toTerm (rvs := [.c 2 true 3]) (hΓ := mkCtx_ok (deep := true) (l := [(255, [], c_laws_toValue)]) ⟨c_laws_toValue_ok, trivial⟩) (h := ?_)
  intro hb hE
  simp only [go_sem] at hb
  unfold ac_laws_toTerm
  (try refine AX_AW ?_); simp only [go_sem]; (repeat' first | apply CJ.mk | intro hc); all_goals try ((repeat' first | apply And.intro | intro hs) <;> (try simp only [go_sem, Bool.and_eq_false_iff] at hs) <;> omega)
noncomputable def c_laws_toTerm : List V → Option (Prop × List (Nat × V) × R) := famQ (fun (x : GTerm) => k_laws_toTerm x)
@[go_sem] theorem c_laws_toTerm_eq (a_Var : List UInt8) (a_Val_N : Int) (a_Val_S : List UInt8) : c_laws_toTerm [(true, [.s a_Var, .i .i64 a_Val_N, .s a_Val_S])] = some (True, [], .one (true, [.s ((GTerm.mk a_Var (GValue.mk a_Val_N a_Val_S)).Var), .i .i64 (((GTerm.mk a_Var (GValue.mk a_Val_N a_Val_S)).Val).N), .s (((GTerm.mk a_Var (GValue.mk a_Val_N a_Val_S)).Val).S)])) := famQ_eq _ (by rintro ⟨_, ⟨_, _⟩⟩ ⟨_, ⟨_, _⟩⟩ h; simp at h; simp_all) (GTerm.mk a_Var (GValue.mk a_Val_N a_Val_S))
theorem c_laws_toTerm_ok : ∀ vs q o r, c_laws_toTerm vs = some (q, o, r) → q → SpecO Tryz.prog 312 vs o r := famQ_ok _
def ac_laws_toTermS : ACode := .seq (.reg false [⟨some 2, .mov (.k (.v false [.nl [.s [], .i .i64 0, .s []]])), none⟩]) (.seq (.reg false [⟨some 5, .mov (.t 0), none⟩, ⟨some 6, .len (.t 5),
  none⟩, ⟨some 7, .mks 3 40 [.s, .i .i64, .s] (.t 6) (.t 6), none⟩, ⟨some 3, .mov (.t 7), none⟩]) (.seq (.seq (.reg false [⟨some 4, .mov (.k (.v false [.c (.i
  .i64 0)])), none⟩]) (.block 0 (.loop (.seq (.seq (.reg false [⟨some 8, .mov (.t 4), none⟩, ⟨some 9, .mov (.t 0), none⟩, ⟨some 10, .len (.t 9), none⟩, ⟨some
  11, .bin .lss (.t 8) (.t 10), none⟩]) (.cond (.t 11) .skip (.exit 0))) (.seq (.block 1 (.reg false [⟨some 14, .mov (.t 3), none⟩, ⟨some 15, .mov (.t 4),
  none⟩, ⟨some 16, .mov (.t 0), none⟩, ⟨some 17, .mov (.t 4), none⟩, ⟨some 18, .ia 3 (.t 16) (.t 17), none⟩, ⟨some 19, .ld true 3 (.t 18), none⟩, ⟨some 20,
  .call 312 [.t 19], none⟩, ⟨some 21, .ia 3 (.t 14) (.t 15), none⟩, ⟨none, .st 3 (.t 21) (.t 20), none⟩])) (.reg false [⟨some 12, .mov (.t 4), none⟩, ⟨some 13,
  .bin .add (.t 12) (.k (.v false [.c (.i .i64 1)])), none⟩, ⟨some 4, .mov (.t 13), none⟩])))))) (.seq (.reg false [⟨some 22, .mov (.t 3), none⟩, ⟨some 2, .mov
  (.t 22), none⟩]) .ret)))
theorem hc_laws_toTermS : Tryz.f271.body.bind (comp Tryz.prog Tryz.f271.ntmps) = some ac_laws_toTermS := by kernel_rfl
theorem k_laws_toTermS (a : List GTerm) (hpre : (((a.length + tots totTerm a) : Nat) : Int) ≤ 1048576) : SpecO Tryz.prog 271 [(false, [.sl false [.s [], .i .i64 0, .s []] (a.map GTerm.cells)])] [] (.one (false, [.sl true [.s [], .i .i64 0, .s []] (a.map GTerm.cells)])) := by
  refine spec_of2 true false none Tryz.func271 hc_laws_toTermS (rvs := [.t 2]) (hΓ := mkCtx_ok (deep := true) (l := [(312, [], c_laws_toTerm)]) ⟨c_laws_toTerm_ok, trivial⟩) (h := ?_)
  intro hb hE
  simp only [go_sem] at hb
  unfold ac_laws_toTermS
  (try refine AX_AW ?_); simp only [go_sem, GTerm_rep]; (repeat' first | apply CJ.mk | intro hc); all_goals try ((repeat' first | apply And.intro | intro hs) <;> (try simp only [go_sem, Bool.and_eq_false_iff] at hs) <;> omega)
  refine aw_loop2 true [] [0, 3] [] [] (fun i : {p : Nat × (List GTerm) // p.1 ≤ a.length ∧ p.2.length = a.length ∧ p.2.take p.1 = a.take p.1} => [(4, slV (.i .i64 i.1.1))]) (fun i => []) (fun i => [(896, [.s [], .i .i64 0, .s []], i.1.2.map GTerm.cells)]) (fun i => a.length - i.1.1) (⟨(0, List.replicate a.length default), by simp⟩) _ rfl ?_ ?_
  · simp only [go_sem, GTerm_rep]
    all_goals first | omega | ((repeat' apply And.intro) <;> first | omega | rfl | skip)
  intro S0 hS0 i
  simp only [go_sem, GTerm_rep] at hS0
  obtain ⟨⟨i, L⟩, hi, hl, ht⟩ := i
  simp only at hi hl ht
  (try refine AX_AW ?_); simp only [go_sem, GTerm_rep, hS0]; (repeat' first | apply CJ.mk | intro hc); all_goals try ((repeat' first | apply And.intro | intro hs) <;> (try simp only [go_sem, Bool.and_eq_false_iff] at hs) <;> omega)
  · (refine lpK_n2 (⟨(i + 1, L.set i (a.getD i default)), by simp only; omega, by simp [hl], take_set_succ hl ht (by omega)⟩) _ rfl ?_; simp only [go_sem, GTerm_rep, hS0]; first | done | ((repeat' apply And.intro) <;> first | omega | (refine w64 ?_ ?_ ?_ <;> omega) | rfl | skip))
  · obtain rfl := eq_of_take hl ht (by omega)
    rfl
  all_goals trace_state
noncomputable def c_laws_toTermS : List V → Option (Prop × List (Nat × V) × R) := famP (fun (x : (List GTerm)) h => k_laws_toTermS x h)
@[go_sem] theorem c_laws_toTermS_eq (a : List GTerm) : c_laws_toTermS [(false, [.sl false [.s [], .i .i64 0, .s []] (a.map GTerm.cells)])] = some ((((a.length + tots totTerm a) : Nat) : Int) ≤ 1048576, [], .one (false, [.sl true [.s [], .i .i64 0, .s []] (a.map GTerm.cells)])) := famP_eq _ (by intro x y h; simp at h; simp_all) a
theorem c_laws_toTermS_ok : ∀ vs q o r, c_laws_toTermS vs = some (q, o, r) → q → SpecO Tryz.prog 271 vs o r := famP_ok _
def ac_laws_eqTerm : ACode := .seq (.reg false [⟨some 2, .box 3 (.t 0), none⟩, ⟨some 3, .box 3 (.t 1), none⟩, ⟨some 4, .mov (.k (.v false [.c (.b false)])), none⟩]) (.seq (.seq (.reg false
  [⟨some 5, .fa 0 (.t 2), none⟩, ⟨some 6, .ld false 1 (.t 5), none⟩, ⟨some 7, .fa 0 (.t 3), none⟩, ⟨some 8, .ld false 1 (.t 7), none⟩, ⟨some 9, .bin .neq (.t 6)
  (.t 8), none⟩]) (.cond (.t 9) (.seq (.reg false [⟨some 4, .mov (.k (.v false [.c (.b false)])), none⟩]) .ret) .skip)) (.seq (.seq (.reg false [⟨some 10, .fa 1
  (.t 2), none⟩, ⟨some 11, .ld true 2 (.t 10), none⟩, ⟨some 12, .fa 1 (.t 3), none⟩, ⟨some 13, .ld true 2 (.t 12), none⟩, ⟨some 14, .call 259 [.t 11, .t 13],
  none⟩, ⟨some 15, .not (.t 14), none⟩]) (.cond (.t 15) (.seq (.reg false [⟨some 4, .mov (.k (.v false [.c (.b false)])), none⟩]) .ret) .skip)) (.seq (.reg
  false [⟨some 4, .mov (.k (.v false [.c (.b true)])), none⟩]) .ret)))
theorem hc_laws_eqTerm : Tryz.f316.body.bind (comp Tryz.prog Tryz.f316.ntmps) = some ac_laws_eqTerm := by kernel_rfl
theorem k_laws_eqTerm (a : GTerm) (b : GTerm) : SpecO Tryz.prog 316 [(true, [.s a.Var, .i .i64 a.Val.N, .s a.Val.S]), (true, [.s b.Var, .i .i64 b.Val.N, .s b.Val.S])] [] (.one (false, [.b (decide (a = b))])) := by
  refine spec_of2 false false none Tryz.func316 hc_laws_eqTerm (rvs := [.t 4]) (hΓ := mkCtx_ok (deep := false) (l := [(259, [], c_laws_eqValue)]) ⟨c_laws_eqValue_ok, trivial⟩) (h := ?_)
  intro hb hE
  simp only [go_sem] at hb
  unfold ac_laws_eqTerm
  (try refine AX_AW ?_); simp only [go_sem]; (repeat' first | apply CJ.mk | intro hc); all_goals try ((repeat' first | apply And.intro | intro hs) <;> (try simp only [go_sem, Bool.and_eq_false_iff] at hs) <;> omega)
  all_goals (cases a; cases b; simp_all)
noncomputable def c_laws_eqTerm : List V → Option (Prop × List (Nat × V) × R) := famQ (fun (x : GTerm × GTerm) => k_laws_eqTerm x.1 x.2)
@[go_sem] theorem c_laws_eqTerm_eq (a_Var : List UInt8) (a_Val_N : Int) (a_Val_S : List UInt8) (b_Var : List UInt8) (b_Val_N : Int) (b_Val_S : List UInt8) : c_laws_eqTerm [(true, [.s a_Var, .i .i64 a_Val_N, .s a_Val_S]), (true, [.s b_Var, .i .i64 b_Val_N, .s b_Val_S])] = some (True, [], .one (false, [.b (decide ((GTerm.mk a_Var (GValue.mk a_Val_N a_Val_S)) = (GTerm.mk b_Var (GValue.mk b_Val_N b_Val_S))))])) := famQ_eq _ (by rintro ⟨⟨_, ⟨_, _⟩⟩, ⟨_, ⟨_, _⟩⟩⟩ ⟨⟨_, ⟨_, _⟩⟩, ⟨_, ⟨_, _⟩⟩⟩ h; simp at h; simp_all) ((GTerm.mk a_Var (GValue.mk a_Val_N a_Val_S)), (GTerm.mk b_Var (GValue.mk b_Val_N b_Val_S)))
theorem c_laws_eqTerm_ok : ∀ vs q o r, c_laws_eqTerm vs = some (q, o, r) → q → SpecO Tryz.prog 316 vs o r := famQ_ok _
def ac_laws_eqTermS : ACode := .seq (.reg false [⟨some 4, .mov (.k (.v false [.c (.b false)])), none⟩]) (.seq (.seq (.reg false [⟨some 6, .mov (.t 0), none⟩, ⟨some 7, .len (.t 6), none⟩,
  ⟨some 8, .mov (.t 1), none⟩, ⟨some 9, .len (.t 8), none⟩, ⟨some 10, .bin .neq (.t 7) (.t 9), none⟩]) (.cond (.t 10) (.seq (.reg false [⟨some 4, .mov (.k (.v
  false [.c (.b false)])), none⟩]) .ret) .skip)) (.seq (.seq (.reg false [⟨some 5, .mov (.k (.v false [.c (.i .i64 0)])), none⟩]) (.block 0 (.loop (.seq (.seq
  (.reg false [⟨some 11, .mov (.t 5), none⟩, ⟨some 12, .mov (.t 0), none⟩, ⟨some 13, .len (.t 12), none⟩, ⟨some 14, .bin .lss (.t 11) (.t 13), none⟩]) (.cond
  (.t 14) .skip (.exit 0))) (.seq (.block 1 (.seq (.reg true [⟨some 17, .mov (.t 0), none⟩, ⟨some 18, .mov (.t 5), none⟩, ⟨some 19, .ia 3 (.t 17) (.t 18),
  none⟩, ⟨some 20, .ld true 3 (.t 19), none⟩, ⟨some 21, .mov (.t 1), none⟩, ⟨some 22, .mov (.t 5), none⟩, ⟨some 23, .ia 3 (.t 21) (.t 22), none⟩, ⟨some 24, .ld
  true 3 (.t 23), none⟩, ⟨some 25, .call 316 [.t 20, .t 24], none⟩, ⟨some 26, .not (.t 25), none⟩]) (.cond (.t 26) (.seq (.reg false [⟨some 4, .mov (.k (.v
  false [.c (.b false)])), none⟩]) .ret) .skip))) (.reg false [⟨some 15, .mov (.t 5), none⟩, ⟨some 16, .bin .add (.t 15) (.k (.v false [.c (.i .i64 1)])),
  none⟩, ⟨some 5, .mov (.t 16), none⟩])))))) (.seq (.reg false [⟨some 4, .mov (.k (.v false [.c (.b true)])), none⟩]) .ret)))
theorem hc_laws_eqTermS : Tryz.f279.body.bind (comp Tryz.prog Tryz.f279.ntmps) = some ac_laws_eqTermS := by kernel_rfl
theorem k_laws_eqTermS (a : List GTerm) (b : List GTerm) : SpecO Tryz.prog 279 [(false, [.sl false [.s [], .i .i64 0, .s []] (a.map GTerm.cells)]), (false, [.sl false [.s [], .i .i64 0, .s []] (b.map GTerm.cells)])] [] (.one (false, [.b (decide (a = b))])) := by
  refine spec_of2 false false none Tryz.func279 hc_laws_eqTermS (rvs := [.t 4]) (hΓ := mkCtx_ok (deep := false) (l := [(316, [], c_laws_eqTerm)]) ⟨c_laws_eqTerm_ok, trivial⟩) (h := ?_)
  intro hb hE
  simp only [go_sem] at hb
  unfold ac_laws_eqTermS
  (try refine AX_AW ?_); simp only [go_sem]; (repeat' first | apply CJ.mk | intro hc); all_goals try ((repeat' first | apply And.intro | intro hs) <;> (try simp only [go_sem, Bool.and_eq_false_iff] at hs) <;> omega)
  · symm
    rw [decide_eq_false_iff_not]
    rintro rfl
    simp at hc
  have hl : a.length = b.length := by simpa [Int.ofNat_inj] using hc
  refine aw_loop2 false [] [0, 1] [] [] (fun i : {i : Nat // i ≤ a.length ∧ a.take i = b.take i} => [(5, slV (.i .i64 i.1))]) (fun i => []) (fun i => []) (fun i => a.length - i.1) (⟨0, by simp⟩) _ rfl ?_ ?_
  · simp only [go_sem]
    all_goals first | omega | ((repeat' apply And.intro) <;> first | omega | rfl | skip)
  intro S0 hS0 i
  simp only [go_sem] at hS0
  obtain ⟨i, hi, ht⟩ := i
  (try refine AX_AW ?_); simp only [go_sem, hS0]; (repeat' first | apply CJ.mk | intro hc); all_goals try ((repeat' first | apply And.intro | intro hs) <;> (try simp only [go_sem, Bool.and_eq_false_iff] at hs) <;> omega)
  · exact (decide_eq_false (ne_of_getD default (i := i) (by simpa using hc))).symm
  · (refine lpK_n2 (⟨i + 1, by omega, take_succ_eq ht (by omega) (by omega) (d := default) (by simpa using hc)⟩) _ rfl ?_; simp only [go_sem, hS0]; first | done | ((repeat' apply And.intro) <;> first | omega | (refine w64 ?_ ?_ ?_ <;> omega) | rfl | skip))
  · exact (decide_eq_true (eq_of_take hl ht (by omega))).symm
  all_goals trace_state
noncomputable def c_laws_eqTermS : List V → Option (Prop × List (Nat × V) × R) := famQ (fun (x : (List GTerm) × (List GTerm)) => k_laws_eqTermS x.1 x.2)
@[go_sem] theorem c_laws_eqTermS_eq (a : List GTerm) (b : List GTerm) : c_laws_eqTermS [(false, [.sl false [.s [], .i .i64 0, .s []] (a.map GTerm.cells)]), (false, [.sl false [.s [], .i .i64 0, .s []] (b.map GTerm.cells)])] = some (True, [], .one (false, [.b (decide (a = b))])) := famQ_eq _ (by rintro ⟨_, _⟩ ⟨_, _⟩ h; simp at h; simp_all) (a, b)
theorem c_laws_eqTermS_ok : ∀ vs q o r, c_laws_eqTermS vs = some (q, o, r) → q → SpecO Tryz.prog 279 vs o r := famQ_ok _
end Go.Aw
