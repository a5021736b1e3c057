/- Programs: sizes, copies, equalities. No condition. -/
import Derived.Test.YthlbadfickhkfaaGreatzbB2
namespace Go.Aw
open Go.Proofs
attribute [local irreducible] aft blk lpK retK AW SpecO
set_option linter.unusedVariables false
set_option linter.unusedSimpArgs false
set_option maxRecDepth 100000
def totAtom (x : GAtom) : Nat := x.Name.length + (x.Args.length + tots totTerm x.Args)
def totLit (x : GLit) : Nat := totAtom x.Atom + totTerm x.A + totTerm x.B
def totRule (x : GRule) : Nat := totAtom x.Head + (x.Body.length + tots totLit x.Body)
def totDecl (x : GDecl) : Nat := x.Name.length
def totProgram (x : GProgram) : Nat := (x.Decls.length + tots totDecl x.Decls) + (x.Rules.length + tots totRule x.Rules)
def ac_laws_szAtom : ACode := q' ([o' 2 (.box 2 (.t 0)), z' 4 0]) (q' ([m' 5 1, f' 6 0 2, l' 7 6, o' 8 (.lens (.t 7)), o' 9 (.bin .sub (.t 5) (.t 8)), m' 1 9]) (.seq (q' ([m' 10 1, o' 11
  (.bin .lss (.t 10) (k' 0))]) (.cond (.t 11) (q' ([o' 4 (.mov (.k (.v false [.c (.i .i64 (-1))])))]) .ret) .skip)) (q' ([f' 12 1 2, l' 13 12, m' 14 1, c' 15
  178 [13, 14], m' 1 15]) (.seq (q' ([m' 16 1, o' 17 (.bin .lss (.t 16) (k' 0))]) (.cond (.t 17) (q' ([o' 4 (.mov (.k (.v false [.c (.i .i64 (-1))])))]) .ret)
  .skip)) (q' ([m' 18 1, m' 4 18]) .ret)))))
theorem hc_laws_szAtom : Tryz.f110.body.bind (comp Tryz.prog Tryz.f110.ntmps) = some ac_laws_szAtom := by kernel_rfl
theorem k_laws_szAtom (a : GAtom) (left : Int) (hpre : 0 ≤ left ∧ left ≤ 1048576) : SpecO Tryz.prog 110 [(true, [.s a.Name, .sl false [.s [], .i .i64 0, .s []] (a.Args.map GTerm.cells)]), (false, [.i .i64 left])] [] (.one (false, [.i .i64 (szR left (totAtom a : Nat))])) := by
  refine spec_of2 false false none Tryz.func110 hc_laws_szAtom (rvs := [.t 4]) (hΓ := mkCtx_ok (deep := false) (l := [(178, [], c_laws_szTermS)]) ⟨c_laws_szTermS_ok, trivial⟩) (h := ?_)
  intro hb hE
  simp only [go_sem] at hb
  dsimp only [ac_laws_szAtom, List.map_cons, List.map_nil, m', f', l', e', n', z', b', a', r', s', i', w', c', o', k', g', q']
  (try refine AX_AW ?_); simp only [go_sem]; (repeat' first | apply CJ.mk | intro hc); all_goals try ((repeat' first | apply And.intro | intro hs) <;> (try simp only [go_sem, Bool.and_eq_false_iff] at hs) <;> omega)
  all_goals ((repeat (simp (disch := omega) only [wsub] at *)) <;> (try simp only [szR, totAtom] at *) <;> (first | omega | (split <;> omega)))
noncomputable def c_laws_szAtom : List V → Option (Prop × List (Nat × V) × R) := famP (fun (x : GAtom × Int) h => k_laws_szAtom x.1 x.2 h)
@[go_sem] theorem c_laws_szAtom_eq (a_Name : List UInt8) (a_Args : List GTerm) (left : Int) : c_laws_szAtom [(true, [.s a_Name, .sl false [.s [], .i .i64 0, .s []] (a_Args.map GTerm.cells)]), (false, [.i .i64 left])] = some (0 ≤ left ∧ left ≤ 1048576, [], .one (false, [.i .i64 (szR left (totAtom (GAtom.mk a_Name a_Args) : Nat))])) := famP_eq _ (by rintro ⟨⟨_, _⟩, _⟩ ⟨⟨_, _⟩, _⟩ h; simp at h; simp_all) ((GAtom.mk a_Name a_Args), left)
theorem c_laws_szAtom_ok : ∀ vs q o r, c_laws_szAtom vs = some (q, o, r) → q → SpecO Tryz.prog 110 vs o r := famP_ok _
def ac_laws_szLit : ACode := q' ([o' 2 (.box 10 (.t 0)), z' 4 0]) (q' ([f' 5 1 2, e' 6 2 5, m' 7 1, c' 8 110 [6, 7], m' 1 8]) (.seq (q' ([m' 9 1, o' 10 (.bin .lss (.t 9) (k' 0))]) (.cond
  (.t 10) (q' ([o' 4 (.mov (.k (.v false [.c (.i .i64 (-1))])))]) .ret) .skip)) (q' ([f' 11 4 2, e' 12 3 11, m' 13 1, c' 14 263 [12, 13], m' 1 14]) (.seq (q'
  ([m' 15 1, o' 16 (.bin .lss (.t 15) (k' 0))]) (.cond (.t 16) (q' ([o' 4 (.mov (.k (.v false [.c (.i .i64 (-1))])))]) .ret) .skip)) (q' ([f' 17 7 2, e' 18 3
  17, m' 19 1, c' 20 263 [18, 19], m' 1 20]) (.seq (q' ([m' 21 1, o' 22 (.bin .lss (.t 21) (k' 0))]) (.cond (.t 22) (q' ([o' 4 (.mov (.k (.v false [.c (.i .i64
  (-1))])))]) .ret) .skip)) (q' ([m' 23 1, m' 4 23]) .ret)))))))
theorem hc_laws_szLit : Tryz.f179.body.bind (comp Tryz.prog Tryz.f179.ntmps) = some ac_laws_szLit := by kernel_rfl
theorem k_laws_szLit (a : GLit) (left : Int) (hpre : 0 ≤ left ∧ left ≤ 1048576) : SpecO Tryz.prog 179 [(true, [.i .i64 a.Kind, .s a.Atom.Name, .sl false [.s [], .i .i64 0, .s []] (a.Atom.Args.map GTerm.cells), .i .i64 a.Op, .s a.A.Var, .i .i64 a.A.Val.N, .s a.A.Val.S, .s a.B.Var, .i .i64 a.B.Val.N, .s a.B.Val.S]), (false, [.i .i64 left])] [] (.one (false, [.i .i64 (szR left (totLit a : Nat))])) := by
  refine spec_of2 false false none Tryz.func179 hc_laws_szLit (rvs := [.t 4]) (hΓ := mkCtx_ok (deep := false) (l := [(110, [], c_laws_szAtom), (263, [], c_laws_szTerm)]) ⟨c_laws_szAtom_ok, c_laws_szTerm_ok, trivial⟩) (h := ?_)
  intro hb hE
  simp only [go_sem] at hb
  dsimp only [ac_laws_szLit, List.map_cons, List.map_nil, m', f', l', e', n', z', b', a', r', s', i', w', c', o', k', g', q']
  (try refine AX_AW ?_); simp only [go_sem]; (repeat' first | apply CJ.mk | intro hc); all_goals try ((repeat' first | apply And.intro | intro hs) <;> (try simp only [go_sem, Bool.and_eq_false_iff] at hs) <;> omega)
  all_goals ((repeat (simp (disch := omega) only [wsub] at *)) <;> (try simp only [szR, totLit] at *) <;> (first | omega | (split <;> omega)))
noncomputable def c_laws_szLit : List V → Option (Prop × List (Nat × V) × R) := famP (fun (x : GLit × Int) h => k_laws_szLit x.1 x.2 h)
@[go_sem] theorem c_laws_szLit_eq (a_Kind : Int) (a_Atom_Name : List UInt8) (a_Atom_Args : List GTerm) (a_Op : Int) (a_A_Var : List UInt8) (a_A_Val_N : Int) (a_A_Val_S : List UInt8) (a_B_Var : List UInt8) (a_B_Val_N : Int) (a_B_Val_S : List UInt8) (left : Int) : c_laws_szLit [(true, [.i .i64 a_Kind, .s a_Atom_Name, .sl false [.s [], .i .i64 0, .s []] (a_Atom_Args.map GTerm.cells), .i .i64 a_Op, .s a_A_Var, .i .i64 a_A_Val_N, .s a_A_Val_S, .s a_B_Var, .i .i64 a_B_Val_N, .s a_B_Val_S]), (false, [.i .i64 left])] = some (0 ≤ left ∧ left ≤ 1048576, [], .one (false, [.i .i64 (szR left (totLit (GLit.mk a_Kind (GAtom.mk a_Atom_Name a_Atom_Args) a_Op (GTerm.mk a_A_Var (GValue.mk a_A_Val_N a_A_Val_S)) (GTerm.mk a_B_Var (GValue.mk a_B_Val_N a_B_Val_S))) : Nat))])) := famP_eq _ (by rintro ⟨⟨_, ⟨_, _⟩, _, ⟨_, ⟨_, _⟩⟩, ⟨_, ⟨_, _⟩⟩⟩, _⟩ ⟨⟨_, ⟨_, _⟩, _, ⟨_, ⟨_, _⟩⟩, ⟨_, ⟨_, _⟩⟩⟩, _⟩ h; simp at h; simp_all) ((GLit.mk a_Kind (GAtom.mk a_Atom_Name a_Atom_Args) a_Op (GTerm.mk a_A_Var (GValue.mk a_A_Val_N a_A_Val_S)) (GTerm.mk a_B_Var (GValue.mk a_B_Val_N a_B_Val_S))), left)
theorem c_laws_szLit_ok : ∀ vs q o r, c_laws_szLit vs = some (q, o, r) → q → SpecO Tryz.prog 179 vs o r := famP_ok _
def ac_laws_szLitS : ACode := q' ([z' 4 0]) (q' ([m' 6 1, m' 7 0, n' 8 7, o' 9 (.bin .sub (.t 6) (.t 8)), m' 1 9]) (.seq (q' ([m' 10 1, o' 11 (.bin .lss (.t 10) (k' 0))]) (.cond (.t 11) (q'
  ([o' 4 (.mov (.k (.v false [.c (.i .i64 (-1))])))]) .ret) .skip)) (.seq (q' ([z' 5 0]) (.block 0 (.loop (.seq (q' ([m' 12 5, m' 13 0, n' 14 13, r' 15 12 14])
  (.cond (.t 15) .skip (.exit 0))) (.seq (.block 1 (q' ([m' 18 0, m' 19 5, i' 20 10 18 19, e' 21 10 20, m' 22 1, c' 23 179 [21, 22], m' 1 23]) (q' ([m' 24 1, o'
  25 (.bin .lss (.t 24) (k' 0))]) (.cond (.t 25) (q' ([o' 4 (.mov (.k (.v false [.c (.i .i64 (-1))])))]) .ret) .skip)))) (g' [m' 16 5, a' 17 16, m' 5 17]))))))
  (q' ([m' 26 1, m' 4 26]) .ret))))
theorem hc_laws_szLitS : Tryz.f111.body.bind (comp Tryz.prog Tryz.f111.ntmps) = some ac_laws_szLitS := by kernel_rfl
theorem k_laws_szLitS (a : List GLit) (left : Int) (hpre : 0 ≤ left ∧ left ≤ 1048576) : SpecO Tryz.prog 111 [(false, [.sl false [.i .i64 0, .s [], .sl false [.s [], .i .i64 0, .s []] [], .i .i64 0, .s [], .i .i64 0, .s [], .s [], .i .i64 0, .s []] (a.map (GLit.cells false false))]), (false, [.i .i64 left])] [] (.one (false, [.i .i64 (szR left ((a.length + tots totLit a) : Nat))])) := by
  refine spec_of2 false false none Tryz.func111 hc_laws_szLitS (rvs := [.t 4]) (hΓ := mkCtx_ok (deep := false) (l := [(179, [], c_laws_szLit)]) ⟨c_laws_szLit_ok, trivial⟩) (h := ?_)
  intro hb hE
  simp only [go_sem] at hb
  dsimp only [ac_laws_szLitS, List.map_cons, List.map_nil, m', f', l', e', n', z', b', a', r', s', i', w', c', o', k', g', q']
  (try refine AX_AW ?_); simp only [go_sem]; (repeat' first | apply CJ.mk | intro hc); all_goals try ((repeat' first | apply And.intro | intro hs) <;> (try simp only [go_sem, Bool.and_eq_false_iff] at hs) <;> omega)
  · all_goals ((repeat (simp (disch := omega) only [wsub] at *)) <;> (try simp only [szR, szR] at *) <;> (first | omega | (split <;> omega)))
  have hw := wsub (l := left) (n := a.length) (by omega) (by omega) (by omega) (by omega)
  rw [hw] at hc
  refine aw_loop2 false [] [0] [] [] (fun i : {i : Nat // i ≤ a.length ∧ (a.length : Int) + (tots totLit (a.take i) : Nat) ≤ left} => [(5, slV (.i .i64 i.1)), (1, slV (.i .i64 (left - a.length - (tots totLit (a.take i.1) : Nat))))]) (fun i => []) (fun i => []) (fun i => a.length - i.1) (⟨0, by simp only [List.take_zero, tots_nil]; omega⟩) _ rfl ?_ ?_
  · simp only [go_sem, hw]
    all_goals first | omega | ((repeat' apply And.intro) <;> first | omega | rfl | skip)
  intro S0 hS0 i
  simp only [go_sem, hw] at hS0
  obtain ⟨i, hi, ht⟩ := i
  (try refine AX_AW ?_); simp only [go_sem, hw, hS0]; (repeat' first | apply CJ.mk | intro hc); all_goals try ((repeat' first | apply And.intro | intro hs) <;> (try simp only [go_sem, Bool.and_eq_false_iff] at hs) <;> omega)
  · have h1 := tots_take_succ totLit (default : GLit) (show i < a.length by omega)
    have h2 := tots_take_le totLit a (i + 1)
    all_goals ((repeat (simp (disch := omega) only [wsub] at *)) <;> (try simp only [szR, szR] at *) <;> (first | omega | (split <;> omega)))
  · have h1 := tots_take_succ totLit (default : GLit) (show i < a.length by omega)
    (refine lpK_n2 (⟨i + 1, by omega, by unfold szR at hc; split at hc <;> omega⟩) _ rfl ?_; simp only [go_sem, hw, hS0]; first | done | ((repeat' apply And.intro) <;> first | omega | (refine w64 ?_ ?_ ?_ <;> omega) | rfl | skip))
    rw [h1]
    unfold szR at hc ⊢
    split at hc <;> omega
  · have h1 := tots_all totLit (show ¬ i < a.length by omega)
    all_goals ((repeat (simp (disch := omega) only [wsub] at *)) <;> (try simp only [szR, szR] at *) <;> (first | omega | (split <;> omega)))
  all_goals all_goals ((repeat (simp (disch := omega) only [wsub] at *)) <;> (try simp only [szR, szR] at *) <;> (first | omega | (split <;> omega)))
noncomputable def c_laws_szLitS : List V → Option (Prop × List (Nat × V) × R) := famP (fun (x : (List GLit) × Int) h => k_laws_szLitS x.1 x.2 h)
@[go_sem] theorem c_laws_szLitS_eq (a : List GLit) (left : Int) : c_laws_szLitS [(false, [.sl false [.i .i64 0, .s [], .sl false [.s [], .i .i64 0, .s []] [], .i .i64 0, .s [], .i .i64 0, .s [], .s [], .i .i64 0, .s []] (a.map (GLit.cells false false))]), (false, [.i .i64 left])] = some (0 ≤ left ∧ left ≤ 1048576, [], .one (false, [.i .i64 (szR left ((a.length + tots totLit a) : Nat))])) := famP_eq _ (by rintro ⟨_, _⟩ ⟨_, _⟩ h; simp at h; simp_all) (a, left)
theorem c_laws_szLitS_ok : ∀ vs q o r, c_laws_szLitS vs = some (q, o, r) → q → SpecO Tryz.prog 111 vs o r := famP_ok _
def ac_laws_szRule : ACode := q' ([o' 2 (.box 4 (.t 0)), z' 4 0]) (q' ([f' 5 1 2, e' 6 2 5, m' 7 1, c' 8 110 [6, 7], m' 1 8]) (.seq (q' ([m' 9 1, o' 10 (.bin .lss (.t 9) (k' 0))]) (.cond (.t
  10) (q' ([o' 4 (.mov (.k (.v false [.c (.i .i64 (-1))])))]) .ret) .skip)) (q' ([f' 11 3 2, l' 12 11, m' 13 1, c' 14 111 [12, 13], m' 1 14]) (.seq (q' ([m' 15
  1, o' 16 (.bin .lss (.t 15) (k' 0))]) (.cond (.t 16) (q' ([o' 4 (.mov (.k (.v false [.c (.i .i64 (-1))])))]) .ret) .skip)) (q' ([m' 17 1, m' 4 17]) .ret)))))
theorem hc_laws_szRule : Tryz.f46.body.bind (comp Tryz.prog Tryz.f46.ntmps) = some ac_laws_szRule := by kernel_rfl
theorem k_laws_szRule (a : GRule) (left : Int) (hpre : 0 ≤ left ∧ left ≤ 1048576) : SpecO Tryz.prog 46 [(true, [.i .i64 a.Kind, .s a.Head.Name, .sl false [.s [], .i .i64 0, .s []] (a.Head.Args.map GTerm.cells), .sl false [.i .i64 0, .s [], .sl false [.s [], .i .i64 0, .s []] [], .i .i64 0, .s [], .i .i64 0, .s [], .s [], .i .i64 0, .s []] (a.Body.map (GLit.cells false false))]), (false, [.i .i64 left])] [] (.one (false, [.i .i64 (szR left (totRule a : Nat))])) := by
  refine spec_of2 false false none Tryz.func46 hc_laws_szRule (rvs := [.t 4]) (hΓ := mkCtx_ok (deep := false) (l := [(110, [], c_laws_szAtom), (111, [], c_laws_szLitS)]) ⟨c_laws_szAtom_ok, c_laws_szLitS_ok, trivial⟩) (h := ?_)
  intro hb hE
  simp only [go_sem] at hb
  dsimp only [ac_laws_szRule, List.map_cons, List.map_nil, m', f', l', e', n', z', b', a', r', s', i', w', c', o', k', g', q']
  (try refine AX_AW ?_); simp only [go_sem]; (repeat' first | apply CJ.mk | intro hc); all_goals try ((repeat' first | apply And.intro | intro hs) <;> (try simp only [go_sem, Bool.and_eq_false_iff] at hs) <;> omega)
  all_goals ((repeat (simp (disch := omega) only [wsub] at *)) <;> (try simp only [szR, totRule] at *) <;> (first | omega | (split <;> omega)))
noncomputable def c_laws_szRule : List V → Option (Prop × List (Nat × V) × R) := famP (fun (x : GRule × Int) h => k_laws_szRule x.1 x.2 h)
@[go_sem] theorem c_laws_szRule_eq (a_Kind : Int) (a_Head_Name : List UInt8) (a_Head_Args : List GTerm) (a_Body : List GLit) (left : Int) : c_laws_szRule [(true, [.i .i64 a_Kind, .s a_Head_Name, .sl false [.s [], .i .i64 0, .s []] (a_Head_Args.map GTerm.cells), .sl false [.i .i64 0, .s [], .sl false [.s [], .i .i64 0, .s []] [], .i .i64 0, .s [], .i .i64 0, .s [], .s [], .i .i64 0, .s []] (a_Body.map (GLit.cells false false))]), (false, [.i .i64 left])] = some (0 ≤ left ∧ left ≤ 1048576, [], .one (false, [.i .i64 (szR left (totRule (GRule.mk a_Kind (GAtom.mk a_Head_Name a_Head_Args) a_Body) : Nat))])) := famP_eq _ (by rintro ⟨⟨_, ⟨_, _⟩, _⟩, _⟩ ⟨⟨_, ⟨_, _⟩, _⟩, _⟩ h; simp at h; simp_all) ((GRule.mk a_Kind (GAtom.mk a_Head_Name a_Head_Args) a_Body), left)
theorem c_laws_szRule_ok : ∀ vs q o r, c_laws_szRule vs = some (q, o, r) → q → SpecO Tryz.prog 46 vs o r := famP_ok _
def ac_laws_szRuleS : ACode := q' ([z' 4 0]) (q' ([m' 6 1, m' 7 0, n' 8 7, o' 9 (.bin .sub (.t 6) (.t 8)), m' 1 9]) (.seq (q' ([m' 10 1, o' 11 (.bin .lss (.t 10) (k' 0))]) (.cond (.t 11) (q'
  ([o' 4 (.mov (.k (.v false [.c (.i .i64 (-1))])))]) .ret) .skip)) (.seq (q' ([z' 5 0]) (.block 0 (.loop (.seq (q' ([m' 12 5, m' 13 0, n' 14 13, r' 15 12 14])
  (.cond (.t 15) .skip (.exit 0))) (.seq (.block 1 (q' ([m' 18 0, m' 19 5, i' 20 4 18 19, e' 21 4 20, m' 22 1, c' 23 46 [21, 22], m' 1 23]) (q' ([m' 24 1, o' 25
  (.bin .lss (.t 24) (k' 0))]) (.cond (.t 25) (q' ([o' 4 (.mov (.k (.v false [.c (.i .i64 (-1))])))]) .ret) .skip)))) (g' [m' 16 5, a' 17 16, m' 5 17])))))) (q'
  ([m' 26 1, m' 4 26]) .ret))))
theorem hc_laws_szRuleS : Tryz.f61.body.bind (comp Tryz.prog Tryz.f61.ntmps) = some ac_laws_szRuleS := by kernel_rfl
theorem k_laws_szRuleS (a : List GRule) (left : Int) (hpre : 0 ≤ left ∧ left ≤ 1048576) : SpecO Tryz.prog 61 [(false, [.sl false [.i .i64 0, .s [], .sl false [.s [], .i .i64 0, .s []] [], .sl false [.i .i64 0, .s [], .sl false [.s [], .i .i64 0, .s []] [], .i .i64 0, .s [], .i .i64 0, .s [], .s [], .i .i64 0, .s []] []] (a.map (GRule.cells false false))]), (false, [.i .i64 left])] [] (.one (false, [.i .i64 (szR left ((a.length + tots totRule a) : Nat))])) := by
  refine spec_of2 false false none Tryz.func61 hc_laws_szRuleS (rvs := [.t 4]) (hΓ := mkCtx_ok (deep := false) (l := [(46, [], c_laws_szRule)]) ⟨c_laws_szRule_ok, trivial⟩) (h := ?_)
  intro hb hE
  simp only [go_sem] at hb
  dsimp only [ac_laws_szRuleS, List.map_cons, List.map_nil, m', f', l', e', n', z', b', a', r', s', i', w', c', o', k', g', q']
  (try refine AX_AW ?_); simp only [go_sem]; (repeat' first | apply CJ.mk | intro hc); all_goals try ((repeat' first | apply And.intro | intro hs) <;> (try simp only [go_sem, Bool.and_eq_false_iff] at hs) <;> omega)
  · all_goals ((repeat (simp (disch := omega) only [wsub] at *)) <;> (try simp only [szR, szR] at *) <;> (first | omega | (split <;> omega)))
  have hw := wsub (l := left) (n := a.length) (by omega) (by omega) (by omega) (by omega)
  rw [hw] at hc
  refine aw_loop2 false [] [0] [] [] (fun i : {i : Nat // i ≤ a.length ∧ (a.length : Int) + (tots totRule (a.take i) : Nat) ≤ left} => [(5, slV (.i .i64 i.1)), (1, slV (.i .i64 (left - a.length - (tots totRule (a.take i.1) : Nat))))]) (fun i => []) (fun i => []) (fun i => a.length - i.1) (⟨0, by simp only [List.take_zero, tots_nil]; omega⟩) _ rfl ?_ ?_
  · simp only [go_sem, hw]
    all_goals first | omega | ((repeat' apply And.intro) <;> first | omega | rfl | skip)
  intro S0 hS0 i
  simp only [go_sem, hw] at hS0
  obtain ⟨i, hi, ht⟩ := i
  (try refine AX_AW ?_); simp only [go_sem, hw, hS0]; (repeat' first | apply CJ.mk | intro hc); all_goals try ((repeat' first | apply And.intro | intro hs) <;> (try simp only [go_sem, Bool.and_eq_false_iff] at hs) <;> omega)
  · have h1 := tots_take_succ totRule (default : GRule) (show i < a.length by omega)
    have h2 := tots_take_le totRule a (i + 1)
    all_goals ((repeat (simp (disch := omega) only [wsub] at *)) <;> (try simp only [szR, szR] at *) <;> (first | omega | (split <;> omega)))
  · have h1 := tots_take_succ totRule (default : GRule) (show i < a.length by omega)
    (refine lpK_n2 (⟨i + 1, by omega, by unfold szR at hc; split at hc <;> omega⟩) _ rfl ?_; simp only [go_sem, hw, hS0]; first | done | ((repeat' apply And.intro) <;> first | omega | (refine w64 ?_ ?_ ?_ <;> omega) | rfl | skip))
    rw [h1]
    unfold szR at hc ⊢
    split at hc <;> omega
  · have h1 := tots_all totRule (show ¬ i < a.length by omega)
    all_goals ((repeat (simp (disch := omega) only [wsub] at *)) <;> (try simp only [szR, szR] at *) <;> (first | omega | (split <;> omega)))
  all_goals all_goals ((repeat (simp (disch := omega) only [wsub] at *)) <;> (try simp only [szR, szR] at *) <;> (first | omega | (split <;> omega)))
noncomputable def c_laws_szRuleS : List V → Option (Prop × List (Nat × V) × R) := famP (fun (x : (List GRule) × Int) h => k_laws_szRuleS x.1 x.2 h)
@[go_sem] theorem c_laws_szRuleS_eq (a : List GRule) (left : Int) : c_laws_szRuleS [(false, [.sl false [.i .i64 0, .s [], .sl false [.s [], .i .i64 0, .s []] [], .sl false [.i .i64 0, .s [], .sl false [.s [], .i .i64 0, .s []] [], .i .i64 0, .s [], .i .i64 0, .s [], .s [], .i .i64 0, .s []] []] (a.map (GRule.cells false false))]), (false, [.i .i64 left])] = some (0 ≤ left ∧ left ≤ 1048576, [], .one (false, [.i .i64 (szR left ((a.length + tots totRule a) : Nat))])) := famP_eq _ (by rintro ⟨_, _⟩ ⟨_, _⟩ h; simp at h; simp_all) (a, left)
theorem c_laws_szRuleS_ok : ∀ vs q o r, c_laws_szRuleS vs = some (q, o, r) → q → SpecO Tryz.prog 61 vs o r := famP_ok _
def ac_laws_szDecl : ACode := q' ([o' 2 (.box 3 (.t 0)), z' 4 0]) (q' ([m' 5 1, f' 6 1 2, l' 7 6, o' 8 (.lens (.t 7)), o' 9 (.bin .sub (.t 5) (.t 8)), m' 1 9]) (.seq (q' ([m' 10 1, o' 11
  (.bin .lss (.t 10) (k' 0))]) (.cond (.t 11) (q' ([o' 4 (.mov (.k (.v false [.c (.i .i64 (-1))])))]) .ret) .skip)) (q' ([m' 12 1, m' 4 12]) .ret)))
theorem hc_laws_szDecl : Tryz.f133.body.bind (comp Tryz.prog Tryz.f133.ntmps) = some ac_laws_szDecl := by kernel_rfl
theorem k_laws_szDecl (a : GDecl) (left : Int) (hpre : 0 ≤ left ∧ left ≤ 1048576) : SpecO Tryz.prog 133 [(true, [.i .i64 a.Kind, .s a.Name, .i .i64 a.Arity]), (false, [.i .i64 left])] [] (.one (false, [.i .i64 (szR left (totDecl a : Nat))])) := by
  refine spec_of2 false false none Tryz.func133 hc_laws_szDecl (rvs := [.t 4]) (hΓ := mkCtx_ok (deep := false) (l := []) trivial) (h := ?_)
  intro hb hE
  simp only [go_sem] at hb
  dsimp only [ac_laws_szDecl, List.map_cons, List.map_nil, m', f', l', e', n', z', b', a', r', s', i', w', c', o', k', g', q']
  (try refine AX_AW ?_); simp only [go_sem]; (repeat' first | apply CJ.mk | intro hc); all_goals try ((repeat' first | apply And.intro | intro hs) <;> (try simp only [go_sem, Bool.and_eq_false_iff] at hs) <;> omega)
  all_goals ((repeat (simp (disch := omega) only [wsub] at *)) <;> (try simp only [szR, totDecl] at *) <;> (first | omega | (split <;> omega)))
noncomputable def c_laws_szDecl : List V → Option (Prop × List (Nat × V) × R) := famP (fun (x : GDecl × Int) h => k_laws_szDecl x.1 x.2 h)
@[go_sem] theorem c_laws_szDecl_eq (a_Kind : Int) (a_Name : List UInt8) (a_Arity : Int) (left : Int) : c_laws_szDecl [(true, [.i .i64 a_Kind, .s a_Name, .i .i64 a_Arity]), (false, [.i .i64 left])] = some (0 ≤ left ∧ left ≤ 1048576, [], .one (false, [.i .i64 (szR left (totDecl (GDecl.mk a_Kind a_Name a_Arity) : Nat))])) := famP_eq _ (by rintro ⟨⟨_, _, _⟩, _⟩ ⟨⟨_, _, _⟩, _⟩ h; simp at h; simp_all) ((GDecl.mk a_Kind a_Name a_Arity), left)
theorem c_laws_szDecl_ok : ∀ vs q o r, c_laws_szDecl vs = some (q, o, r) → q → SpecO Tryz.prog 133 vs o r := famP_ok _
def ac_laws_szDeclS : ACode := q' ([z' 4 0]) (q' ([m' 6 1, m' 7 0, n' 8 7, o' 9 (.bin .sub (.t 6) (.t 8)), m' 1 9]) (.seq (q' ([m' 10 1, o' 11 (.bin .lss (.t 10) (k' 0))]) (.cond (.t 11) (q'
  ([o' 4 (.mov (.k (.v false [.c (.i .i64 (-1))])))]) .ret) .skip)) (.seq (q' ([z' 5 0]) (.block 0 (.loop (.seq (q' ([m' 12 5, m' 13 0, n' 14 13, r' 15 12 14])
  (.cond (.t 15) .skip (.exit 0))) (.seq (.block 1 (q' ([m' 18 0, m' 19 5, i' 20 3 18 19, e' 21 3 20, m' 22 1, c' 23 133 [21, 22], m' 1 23]) (q' ([m' 24 1, o'
  25 (.bin .lss (.t 24) (k' 0))]) (.cond (.t 25) (q' ([o' 4 (.mov (.k (.v false [.c (.i .i64 (-1))])))]) .ret) .skip)))) (g' [m' 16 5, a' 17 16, m' 5 17]))))))
  (q' ([m' 26 1, m' 4 26]) .ret))))
theorem hc_laws_szDeclS : Tryz.f60.body.bind (comp Tryz.prog Tryz.f60.ntmps) = some ac_laws_szDeclS := by kernel_rfl
theorem k_laws_szDeclS (a : List GDecl) (left : Int) (hpre : 0 ≤ left ∧ left ≤ 1048576) : SpecO Tryz.prog 60 [(false, [.sl false [.i .i64 0, .s [], .i .i64 0] (a.map GDecl.cells)]), (false, [.i .i64 left])] [] (.one (false, [.i .i64 (szR left ((a.length + tots totDecl a) : Nat))])) := by
  refine spec_of2 false false none Tryz.func60 hc_laws_szDeclS (rvs := [.t 4]) (hΓ := mkCtx_ok (deep := false) (l := [(133, [], c_laws_szDecl)]) ⟨c_laws_szDecl_ok, trivial⟩) (h := ?_)
  intro hb hE
  simp only [go_sem] at hb
  dsimp only [ac_laws_szDeclS, List.map_cons, List.map_nil, m', f', l', e', n', z', b', a', r', s', i', w', c', o', k', g', q']
  (try refine AX_AW ?_); simp only [go_sem]; (repeat' first | apply CJ.mk | intro hc); all_goals try ((repeat' first | apply And.intro | intro hs) <;> (try simp only [go_sem, Bool.and_eq_false_iff] at hs) <;> omega)
  · all_goals ((repeat (simp (disch := omega) only [wsub] at *)) <;> (try simp only [szR, szR] at *) <;> (first | omega | (split <;> omega)))
  have hw := wsub (l := left) (n := a.length) (by omega) (by omega) (by omega) (by omega)
  rw [hw] at hc
  refine aw_loop2 false [] [0] [] [] (fun i : {i : Nat // i ≤ a.length ∧ (a.length : Int) + (tots totDecl (a.take i) : Nat) ≤ left} => [(5, slV (.i .i64 i.1)), (1, slV (.i .i64 (left - a.length - (tots totDecl (a.take i.1) : Nat))))]) (fun i => []) (fun i => []) (fun i => a.length - i.1) (⟨0, by simp only [List.take_zero, tots_nil]; omega⟩) _ rfl ?_ ?_
  · simp only [go_sem, hw]
    all_goals first | omega | ((repeat' apply And.intro) <;> first | omega | rfl | skip)
  intro S0 hS0 i
  simp only [go_sem, hw] at hS0
  obtain ⟨i, hi, ht⟩ := i
  (try refine AX_AW ?_); simp only [go_sem, hw, hS0]; (repeat' first | apply CJ.mk | intro hc); all_goals try ((repeat' first | apply And.intro | intro hs) <;> (try simp only [go_sem, Bool.and_eq_false_iff] at hs) <;> omega)
  · have h1 := tots_take_succ totDecl (default : GDecl) (show i < a.length by omega)
    have h2 := tots_take_le totDecl a (i + 1)
    all_goals ((repeat (simp (disch := omega) only [wsub] at *)) <;> (try simp only [szR, szR] at *) <;> (first | omega | (split <;> omega)))
  · have h1 := tots_take_succ totDecl (default : GDecl) (show i < a.length by omega)
    (refine lpK_n2 (⟨i + 1, by omega, by unfold szR at hc; split at hc <;> omega⟩) _ rfl ?_; simp only [go_sem, hw, hS0]; first | done | ((repeat' apply And.intro) <;> first | omega | (refine w64 ?_ ?_ ?_ <;> omega) | rfl | skip))
    rw [h1]
    unfold szR at hc ⊢
    split at hc <;> omega
  · have h1 := tots_all totDecl (show ¬ i < a.length by omega)
    all_goals ((repeat (simp (disch := omega) only [wsub] at *)) <;> (try simp only [szR, szR] at *) <;> (first | omega | (split <;> omega)))
  all_goals all_goals ((repeat (simp (disch := omega) only [wsub] at *)) <;> (try simp only [szR, szR] at *) <;> (first | omega | (split <;> omega)))
noncomputable def c_laws_szDeclS : List V → Option (Prop × List (Nat × V) × R) := famP (fun (x : (List GDecl) × Int) h => k_laws_szDeclS x.1 x.2 h)
@[go_sem] theorem c_laws_szDeclS_eq (a : List GDecl) (left : Int) : c_laws_szDeclS [(false, [.sl false [.i .i64 0, .s [], .i .i64 0] (a.map GDecl.cells)]), (false, [.i .i64 left])] = some (0 ≤ left ∧ left ≤ 1048576, [], .one (false, [.i .i64 (szR left ((a.length + tots totDecl a) : Nat))])) := famP_eq _ (by rintro ⟨_, _⟩ ⟨_, _⟩ h; simp at h; simp_all) (a, left)
theorem c_laws_szDeclS_ok : ∀ vs q o r, c_laws_szDeclS vs = some (q, o, r) → q → SpecO Tryz.prog 60 vs o r := famP_ok _
def ac_laws_szProgram : ACode := q' ([o' 2 (.box 2 (.t 0)), z' 4 0]) (q' ([f' 5 0 2, l' 6 5, m' 7 1, c' 8 60 [6, 7], m' 1 8]) (.seq (q' ([m' 9 1, o' 10 (.bin .lss (.t 9) (k' 0))]) (.cond (.t
  10) (q' ([o' 4 (.mov (.k (.v false [.c (.i .i64 (-1))])))]) .ret) .skip)) (q' ([f' 11 1 2, l' 12 11, m' 13 1, c' 14 61 [12, 13], m' 1 14]) (.seq (q' ([m' 15
  1, o' 16 (.bin .lss (.t 15) (k' 0))]) (.cond (.t 16) (q' ([o' 4 (.mov (.k (.v false [.c (.i .i64 (-1))])))]) .ret) .skip)) (q' ([m' 17 1, m' 4 17]) .ret)))))
theorem hc_laws_szProgram : Tryz.f12.body.bind (comp Tryz.prog Tryz.f12.ntmps) = some ac_laws_szProgram := by kernel_rfl
theorem k_laws_szProgram (a : GProgram) (left : Int) (hpre : 0 ≤ left ∧ left ≤ 1048576) : SpecO Tryz.prog 12 [(true, [.sl false [.i .i64 0, .s [], .i .i64 0] (a.Decls.map GDecl.cells), .sl false [.i .i64 0, .s [], .sl false [.s [], .i .i64 0, .s []] [], .sl false [.i .i64 0, .s [], .sl false [.s [], .i .i64 0, .s []] [], .i .i64 0, .s [], .i .i64 0, .s [], .s [], .i .i64 0, .s []] []] (a.Rules.map (GRule.cells false false))]), (false, [.i .i64 left])] [] (.one (false, [.i .i64 (szR left (totProgram a : Nat))])) := by
  refine spec_of2 false false none Tryz.func12 hc_laws_szProgram (rvs := [.t 4]) (hΓ := mkCtx_ok (deep := false) (l := [(60, [], c_laws_szDeclS), (61, [], c_laws_szRuleS)]) ⟨c_laws_szDeclS_ok, c_laws_szRuleS_ok, trivial⟩) (h := ?_)
  intro hb hE
  simp only [go_sem] at hb
  dsimp only [ac_laws_szProgram, List.map_cons, List.map_nil, m', f', l', e', n', z', b', a', r', s', i', w', c', o', k', g', q']
  (try refine AX_AW ?_); simp only [go_sem]; (repeat' first | apply CJ.mk | intro hc); all_goals try ((repeat' first | apply And.intro | intro hs) <;> (try simp only [go_sem, Bool.and_eq_false_iff] at hs) <;> omega)
  all_goals ((repeat (simp (disch := omega) only [wsub] at *)) <;> (try simp only [szR, totProgram] at *) <;> (first | omega | (split <;> omega)))
noncomputable def c_laws_szProgram : List V → Option (Prop × List (Nat × V) × R) := famP (fun (x : GProgram × Int) h => k_laws_szProgram x.1 x.2 h)
@[go_sem] theorem c_laws_szProgram_eq (a_Decls : List GDecl) (a_Rules : List GRule) (left : Int) : c_laws_szProgram [(true, [.sl false [.i .i64 0, .s [], .i .i64 0] (a_Decls.map GDecl.cells), .sl false [.i .i64 0, .s [], .sl false [.s [], .i .i64 0, .s []] [], .sl false [.i .i64 0, .s [], .sl false [.s [], .i .i64 0, .s []] [], .i .i64 0, .s [], .i .i64 0, .s [], .s [], .i .i64 0, .s []] []] (a_Rules.map (GRule.cells false false))]), (false, [.i .i64 left])] = some (0 ≤ left ∧ left ≤ 1048576, [], .one (false, [.i .i64 (szR left (totProgram (GProgram.mk a_Decls a_Rules) : Nat))])) := famP_eq _ (by rintro ⟨⟨_, _⟩, _⟩ ⟨⟨_, _⟩, _⟩ h; simp at h; simp_all) ((GProgram.mk a_Decls a_Rules), left)
theorem c_laws_szProgram_ok : ∀ vs q o r, c_laws_szProgram vs = some (q, o, r) → q → SpecO Tryz.prog 12 vs o r := famP_ok _
def ac_laws_toAtom : ACode := q' ([o' 1 (.box 2 (.t 0)), w' 2 [.s, .sl [.s [], .i .i64 0, .s []]]]) (q' ([w' 3 [.s, .sl [.s [], .i .i64 0, .s []]]]) (q' ([f' 4 0 1, l' 5 4, f' 6 0 3, s' 1 6
  5]) (q' ([f' 7 1 1, l' 8 7, c' 9 189 [8], f' 10 1 3, s' 1 10 9]) (q' ([e' 11 2 3, s' 2 2 11]) .ret))))
theorem hc_laws_toAtom : Tryz.f115.body.bind (comp Tryz.prog Tryz.f115.ntmps) = some ac_laws_toAtom := by kernel_rfl
theorem k_laws_toAtom (a : GAtom) (hpre : (totAtom a : Int) ≤ 1048576) : SpecO Tryz.prog 115 [(true, [.s a.Name, .sl false [.s [], .i .i64 0, .s []] (a.Args.map GTerm.cells)])] [] (.one (true, [.s a.Name, .sl true [.s [], .i .i64 0, .s []] (a.Args.map GTerm.cells)])) := by
  refine spec_of2 true false none Tryz.func115 hc_laws_toAtom (rvs := [.c 2 true 2]) (hΓ := mkCtx_ok (deep := true) (l := [(189, [], c_laws_toTermS)]) ⟨c_laws_toTermS_ok, trivial⟩) (h := ?_)
  intro hb hE
  simp only [go_sem] at hb
  dsimp only [ac_laws_toAtom, List.map_cons, List.map_nil, m', f', l', e', n', z', b', a', r', s', i', w', c', o', k', g', q']
  (try refine AX_AW ?_); simp only [go_sem]; (repeat' first | apply CJ.mk | intro hc); all_goals try ((repeat' first | apply And.intro | intro hs) <;> (try simp only [go_sem, Bool.and_eq_false_iff] at hs) <;> omega)
  all_goals (simp only [totAtom] at *; omega)
noncomputable def c_laws_toAtom : List V → Option (Prop × List (Nat × V) × R) := famP (fun (x : GAtom) h => k_laws_toAtom x h)
@[go_sem] theorem c_laws_toAtom_eq (a_Name : List UInt8) (a_Args : List GTerm) : c_laws_toAtom [(true, [.s a_Name, .sl false [.s [], .i .i64 0, .s []] (a_Args.map GTerm.cells)])] = some ((totAtom (GAtom.mk a_Name a_Args) : Int) ≤ 1048576, [], .one (true, [.s ((GAtom.mk a_Name a_Args).Name), .sl true [.s [], .i .i64 0, .s []] (((GAtom.mk a_Name a_Args).Args).map GTerm.cells)])) := famP_eq _ (by rintro ⟨_, _⟩ ⟨_, _⟩ h; simp at h; simp_all) (GAtom.mk a_Name a_Args)
theorem c_laws_toAtom_ok : ∀ vs q o r, c_laws_toAtom vs = some (q, o, r) → q → SpecO Tryz.prog 115 vs o r := famP_ok _
def ac_laws_toLit : ACode := q' ([o' 1 (.box 10 (.t 0)), w' 2 [.i .i64, .s, .sl [.s [], .i .i64 0, .s []], .i .i64, .s, .i .i64, .s, .s, .i .i64, .s]]) (q' ([w' 3 [.i .i64, .s, .sl [.s [],
  .i .i64 0, .s []], .i .i64, .s, .i .i64, .s, .s, .i .i64, .s]]) (q' ([f' 4 0 1, l' 5 4, f' 6 0 3, s' 1 6 5]) (q' ([f' 7 1 1, e' 8 2 7, c' 9 115 [8], f' 10 1
  3, s' 2 10 9]) (q' ([f' 11 3 1, l' 12 11, f' 13 3 3, s' 1 13 12]) (q' ([f' 14 4 1, e' 15 3 14, c' 16 272 [15], f' 17 4 3, s' 3 17 16]) (q' ([f' 18 7 1, e' 19
  3 18, c' 20 272 [19], f' 21 7 3, s' 3 21 20]) (q' ([e' 22 10 3, s' 10 2 22]) .ret)))))))
theorem hc_laws_toLit : Tryz.f190.body.bind (comp Tryz.prog Tryz.f190.ntmps) = some ac_laws_toLit := by kernel_rfl
theorem k_laws_toLit (a : GLit) (hpre : (totLit a : Int) ≤ 1048576) : SpecO Tryz.prog 190 [(true, [.i .i64 a.Kind, .s a.Atom.Name, .sl false [.s [], .i .i64 0, .s []] (a.Atom.Args.map GTerm.cells), .i .i64 a.Op, .s a.A.Var, .i .i64 a.A.Val.N, .s a.A.Val.S, .s a.B.Var, .i .i64 a.B.Val.N, .s a.B.Val.S])] [] (.one (true, [.i .i64 a.Kind, .s a.Atom.Name, .sl true [.s [], .i .i64 0, .s []] (a.Atom.Args.map GTerm.cells), .i .i64 a.Op, .s a.A.Var, .i .i64 a.A.Val.N, .s a.A.Val.S, .s a.B.Var, .i .i64 a.B.Val.N, .s a.B.Val.S])) := by
  refine spec_of2 true false none Tryz.func190 hc_laws_toLit (rvs := [.c 2 true 10]) (hΓ := mkCtx_ok (deep := true) (l := [(115, [], c_laws_toAtom), (272, [], c_laws_toTerm)]) ⟨c_laws_toAtom_ok, c_laws_toTerm_ok, trivial⟩) (h := ?_)
  intro hb hE
  simp only [go_sem] at hb
  dsimp only [ac_laws_toLit, List.map_cons, List.map_nil, m', f', l', e', n', z', b', a', r', s', i', w', c', o', k', g', q']
  (try refine AX_AW ?_); simp only [go_sem]; (repeat' first | apply CJ.mk | intro hc); all_goals try ((repeat' first | apply And.intro | intro hs) <;> (try simp only [go_sem, Bool.and_eq_false_iff] at hs) <;> omega)
  all_goals (simp only [totLit] at *; omega)
noncomputable def c_laws_toLit : List V → Option (Prop × List (Nat × V) × R) := famP (fun (x : GLit) h => k_laws_toLit x h)
@[go_sem] theorem c_laws_toLit_eq (a_Kind : Int) (a_Atom_Name : List UInt8) (a_Atom_Args : List GTerm) (a_Op : Int) (a_A_Var : List UInt8) (a_A_Val_N : Int) (a_A_Val_S : List UInt8) (a_B_Var : List UInt8) (a_B_Val_N : Int) (a_B_Val_S : List UInt8) : c_laws_toLit [(true, [.i .i64 a_Kind, .s a_Atom_Name, .sl false [.s [], .i .i64 0, .s []] (a_Atom_Args.map GTerm.cells), .i .i64 a_Op, .s a_A_Var, .i .i64 a_A_Val_N, .s a_A_Val_S, .s a_B_Var, .i .i64 a_B_Val_N, .s a_B_Val_S])] = some ((totLit (GLit.mk a_Kind (GAtom.mk a_Atom_Name a_Atom_Args) a_Op (GTerm.mk a_A_Var (GValue.mk a_A_Val_N a_A_Val_S)) (GTerm.mk a_B_Var (GValue.mk a_B_Val_N a_B_Val_S))) : Int) ≤ 1048576, [], .one (true, [.i .i64 ((GLit.mk a_Kind (GAtom.mk a_Atom_Name a_Atom_Args) a_Op (GTerm.mk a_A_Var (GValue.mk a_A_Val_N a_A_Val_S)) (GTerm.mk a_B_Var (GValue.mk a_B_Val_N a_B_Val_S))).Kind), .s (((GLit.mk a_Kind (GAtom.mk a_Atom_Name a_Atom_Args) a_Op (GTerm.mk a_A_Var (GValue.mk a_A_Val_N a_A_Val_S)) (GTerm.mk a_B_Var (GValue.mk a_B_Val_N a_B_Val_S))).Atom).Name), .sl true [.s [], .i .i64 0, .s []] ((((GLit.mk a_Kind (GAtom.mk a_Atom_Name a_Atom_Args) a_Op (GTerm.mk a_A_Var (GValue.mk a_A_Val_N a_A_Val_S)) (GTerm.mk a_B_Var (GValue.mk a_B_Val_N a_B_Val_S))).Atom).Args).map GTerm.cells), .i .i64 ((GLit.mk a_Kind (GAtom.mk a_Atom_Name a_Atom_Args) a_Op (GTerm.mk a_A_Var (GValue.mk a_A_Val_N a_A_Val_S)) (GTerm.mk a_B_Var (GValue.mk a_B_Val_N a_B_Val_S))).Op), .s (((GLit.mk a_Kind (GAtom.mk a_Atom_Name a_Atom_Args) a_Op (GTerm.mk a_A_Var (GValue.mk a_A_Val_N a_A_Val_S)) (GTerm.mk a_B_Var (GValue.mk a_B_Val_N a_B_Val_S))).A).Var), .i .i64 ((((GLit.mk a_Kind (GAtom.mk a_Atom_Name a_Atom_Args) a_Op (GTerm.mk a_A_Var (GValue.mk a_A_Val_N a_A_Val_S)) (GTerm.mk a_B_Var (GValue.mk a_B_Val_N a_B_Val_S))).A).Val).N), .s ((((GLit.mk a_Kind (GAtom.mk a_Atom_Name a_Atom_Args) a_Op (GTerm.mk a_A_Var (GValue.mk a_A_Val_N a_A_Val_S)) (GTerm.mk a_B_Var (GValue.mk a_B_Val_N a_B_Val_S))).A).Val).S), .s (((GLit.mk a_Kind (GAtom.mk a_Atom_Name a_Atom_Args) a_Op (GTerm.mk a_A_Var (GValue.mk a_A_Val_N a_A_Val_S)) (GTerm.mk a_B_Var (GValue.mk a_B_Val_N a_B_Val_S))).B).Var), .i .i64 ((((GLit.mk a_Kind (GAtom.mk a_Atom_Name a_Atom_Args) a_Op (GTerm.mk a_A_Var (GValue.mk a_A_Val_N a_A_Val_S)) (GTerm.mk a_B_Var (GValue.mk a_B_Val_N a_B_Val_S))).B).Val).N), .s ((((GLit.mk a_Kind (GAtom.mk a_Atom_Name a_Atom_Args) a_Op (GTerm.mk a_A_Var (GValue.mk a_A_Val_N a_A_Val_S)) (GTerm.mk a_B_Var (GValue.mk a_B_Val_N a_B_Val_S))).B).Val).S)])) := famP_eq _ (by rintro ⟨_, ⟨_, _⟩, _, ⟨_, ⟨_, _⟩⟩, ⟨_, ⟨_, _⟩⟩⟩ ⟨_, ⟨_, _⟩, _, ⟨_, ⟨_, _⟩⟩, ⟨_, ⟨_, _⟩⟩⟩ h; simp at h; simp_all) (GLit.mk a_Kind (GAtom.mk a_Atom_Name a_Atom_Args) a_Op (GTerm.mk a_A_Var (GValue.mk a_A_Val_N a_A_Val_S)) (GTerm.mk a_B_Var (GValue.mk a_B_Val_N a_B_Val_S)))
theorem c_laws_toLit_ok : ∀ vs q o r, c_laws_toLit vs = some (q, o, r) → q → SpecO Tryz.prog 190 vs o r := famP_ok _
def ac_laws_toLitS : ACode := q' ([o' 2 (.mov (.k (.v false [.nl [.i .i64 0, .s [], .sl false [.s [], .i .i64 0, .s []] [], .i .i64 0, .s [], .i .i64 0, .s [], .s [], .i .i64 0, .s []]])))])
  (q' ([m' 5 0, n' 6 5, o' 7 (.mks 10 136 [.i .i64, .s, .sl [.s [], .i .i64 0, .s []], .i .i64, .s, .i .i64, .s, .s, .i .i64, .s] (.t 6) (.t 6)), m' 3 7]) (.seq
  (q' ([z' 4 0]) (.block 0 (.loop (.seq (q' ([m' 8 4, m' 9 0, n' 10 9, r' 11 8 10]) (.cond (.t 11) .skip (.exit 0))) (.seq (.block 1 (g' [m' 14 3, m' 15 4, m'
  16 0, m' 17 4, i' 18 10 16 17, e' 19 10 18, c' 20 190 [19], i' 21 10 14 15, s' 10 21 20])) (g' [m' 12 4, a' 13 12, m' 4 13])))))) (q' ([m' 22 3, m' 2 22])
  .ret)))
theorem hc_laws_toLitS : Tryz.f116.body.bind (comp Tryz.prog Tryz.f116.ntmps) = some ac_laws_toLitS := by kernel_rfl
theorem k_laws_toLitS (a : List GLit) (hpre : (((a.length + tots totLit a) : Nat) : Int) ≤ 1048576) : SpecO Tryz.prog 116 [(false, [.sl false [.i .i64 0, .s [], .sl false [.s [], .i .i64 0, .s []] [], .i .i64 0, .s [], .i .i64 0, .s [], .s [], .i .i64 0, .s []] (a.map (GLit.cells false false))])] [] (.one (false, [.sl true [.i .i64 0, .s [], .sl true [.s [], .i .i64 0, .s []] [], .i .i64 0, .s [], .i .i64 0, .s [], .s [], .i .i64 0, .s []] (a.map (GLit.cells true true))])) := by
  refine spec_of2 true false none Tryz.func116 hc_laws_toLitS (rvs := [.t 2]) (hΓ := mkCtx_ok (deep := true) (l := [(190, [], c_laws_toLit)]) ⟨c_laws_toLit_ok, trivial⟩) (h := ?_)
  intro hb hE
  simp only [go_sem] at hb
  dsimp only [ac_laws_toLitS, List.map_cons, List.map_nil, m', f', l', e', n', z', b', a', r', s', i', w', c', o', k', g', q']
  (try refine AX_AW ?_); simp only [go_sem, GLit_rep]; (repeat' first | apply CJ.mk | intro hc); all_goals try ((repeat' first | apply And.intro | intro hs) <;> (try simp only [go_sem, Bool.and_eq_false_iff] at hs) <;> omega)
  refine aw_loop2 true [] [0, 3] [] [] (fun i : {p : Nat × (List GLit) // p.1 ≤ a.length ∧ p.2.length = a.length ∧ p.2.take p.1 = a.take p.1} => [(4, slV (.i .i64 i.1.1))]) (fun i => []) (fun i => [(896, [.i .i64 0, .s [], .sl true [.s [], .i .i64 0, .s []] [], .i .i64 0, .s [], .i .i64 0, .s [], .s [], .i .i64 0, .s []], i.1.2.map (GLit.cells true true))]) (fun i => a.length - i.1.1) (⟨(0, List.replicate a.length default), by simp⟩) _ rfl ?_ ?_
  · simp only [go_sem, GLit_rep]
    all_goals first | omega | ((repeat' apply And.intro) <;> first | omega | rfl | skip)
  intro S0 hS0 i
  simp only [go_sem, GLit_rep] at hS0
  obtain ⟨⟨i, L⟩, hi, hl, ht⟩ := i
  simp only at hi hl ht
  have hg := tots_getD totLit a i default rfl
  (try refine AX_AW ?_); simp only [go_sem, GLit_rep, hS0]; (repeat' first | apply CJ.mk | intro hc); all_goals try ((repeat' first | apply And.intro | intro hs) <;> (try simp only [go_sem, Bool.and_eq_false_iff] at hs) <;> omega)
  · (refine lpK_n2 (⟨(i + 1, L.set i (a.getD i default)), by simp only; omega, by simp [hl], take_set_succ hl ht (by omega)⟩) _ rfl ?_; simp only [go_sem, GLit_rep, hS0]; first | done | ((repeat' apply And.intro) <;> first | omega | (refine w64 ?_ ?_ ?_ <;> omega) | rfl | skip))
  · obtain rfl := eq_of_take hl ht (by omega)
    rfl
  all_goals trace_state
noncomputable def c_laws_toLitS : List V → Option (Prop × List (Nat × V) × R) := famP (fun (x : (List GLit)) h => k_laws_toLitS x h)
@[go_sem] theorem c_laws_toLitS_eq (a : List GLit) : c_laws_toLitS [(false, [.sl false [.i .i64 0, .s [], .sl false [.s [], .i .i64 0, .s []] [], .i .i64 0, .s [], .i .i64 0, .s [], .s [], .i .i64 0, .s []] (a.map (GLit.cells false false))])] = some ((((a.length + tots totLit a) : Nat) : Int) ≤ 1048576, [], .one (false, [.sl true [.i .i64 0, .s [], .sl true [.s [], .i .i64 0, .s []] [], .i .i64 0, .s [], .i .i64 0, .s [], .s [], .i .i64 0, .s []] (a.map (GLit.cells true true))])) := famP_eq _ (by intro x y h; simp at h; simp_all) a
theorem c_laws_toLitS_ok : ∀ vs q o r, c_laws_toLitS vs = some (q, o, r) → q → SpecO Tryz.prog 116 vs o r := famP_ok _
def ac_laws_toRule : ACode := q' ([o' 1 (.box 4 (.t 0)), w' 2 [.i .i64, .s, .sl [.s [], .i .i64 0, .s []], .sl [.i .i64 0, .s [], .sl false [.s [], .i .i64 0, .s []] [], .i .i64 0, .s [], .i
  .i64 0, .s [], .s [], .i .i64 0, .s []]]]) (q' ([w' 3 [.i .i64, .s, .sl [.s [], .i .i64 0, .s []], .sl [.i .i64 0, .s [], .sl false [.s [], .i .i64 0, .s []]
  [], .i .i64 0, .s [], .i .i64 0, .s [], .s [], .i .i64 0, .s []]]]) (q' ([f' 4 0 1, l' 5 4, f' 6 0 3, s' 1 6 5]) (q' ([f' 7 1 1, e' 8 2 7, c' 9 115 [8], f' 10
  1 3, s' 2 10 9]) (q' ([f' 11 3 1, l' 12 11, c' 13 116 [12], f' 14 3 3, s' 1 14 13]) (q' ([e' 15 4 3, s' 4 2 15]) .ret)))))
theorem hc_laws_toRule : Tryz.f48.body.bind (comp Tryz.prog Tryz.f48.ntmps) = some ac_laws_toRule := by kernel_rfl
theorem k_laws_toRule (a : GRule) (hpre : (totRule a : Int) ≤ 1048576) : SpecO Tryz.prog 48 [(true, [.i .i64 a.Kind, .s a.Head.Name, .sl false [.s [], .i .i64 0, .s []] (a.Head.Args.map GTerm.cells), .sl false [.i .i64 0, .s [], .sl false [.s [], .i .i64 0, .s []] [], .i .i64 0, .s [], .i .i64 0, .s [], .s [], .i .i64 0, .s []] (a.Body.map (GLit.cells false false))])] [] (.one (true, [.i .i64 a.Kind, .s a.Head.Name, .sl true [.s [], .i .i64 0, .s []] (a.Head.Args.map GTerm.cells), .sl true [.i .i64 0, .s [], .sl true [.s [], .i .i64 0, .s []] [], .i .i64 0, .s [], .i .i64 0, .s [], .s [], .i .i64 0, .s []] (a.Body.map (GLit.cells true true))])) := by
  refine spec_of2 true false none Tryz.func48 hc_laws_toRule (rvs := [.c 2 true 4]) (hΓ := mkCtx_ok (deep := true) (l := [(115, [], c_laws_toAtom), (116, [], c_laws_toLitS)]) ⟨c_laws_toAtom_ok, c_laws_toLitS_ok, trivial⟩) (h := ?_)
  intro hb hE
  simp only [go_sem] at hb
  dsimp only [ac_laws_toRule, List.map_cons, List.map_nil, m', f', l', e', n', z', b', a', r', s', i', w', c', o', k', g', q']
  (try refine AX_AW ?_); simp only [go_sem]; (repeat' first | apply CJ.mk | intro hc); all_goals try ((repeat' first | apply And.intro | intro hs) <;> (try simp only [go_sem, Bool.and_eq_false_iff] at hs) <;> omega)
  all_goals (simp only [totRule] at *; omega)
noncomputable def c_laws_toRule : List V → Option (Prop × List (Nat × V) × R) := famP (fun (x : GRule) h => k_laws_toRule x h)
@[go_sem] theorem c_laws_toRule_eq (a_Kind : Int) (a_Head_Name : List UInt8) (a_Head_Args : List GTerm) (a_Body : List GLit) : c_laws_toRule [(true, [.i .i64 a_Kind, .s a_Head_Name, .sl false [.s [], .i .i64 0, .s []] (a_Head_Args.map GTerm.cells), .sl false [.i .i64 0, .s [], .sl false [.s [], .i .i64 0, .s []] [], .i .i64 0, .s [], .i .i64 0, .s [], .s [], .i .i64 0, .s []] (a_Body.map (GLit.cells false false))])] = some ((totRule (GRule.mk a_Kind (GAtom.mk a_Head_Name a_Head_Args) a_Body) : Int) ≤ 1048576, [], .one (true, [.i .i64 ((GRule.mk a_Kind (GAtom.mk a_Head_Name a_Head_Args) a_Body).Kind), .s (((GRule.mk a_Kind (GAtom.mk a_Head_Name a_Head_Args) a_Body).Head).Name), .sl true [.s [], .i .i64 0, .s []] ((((GRule.mk a_Kind (GAtom.mk a_Head_Name a_Head_Args) a_Body).Head).Args).map GTerm.cells), .sl true [.i .i64 0, .s [], .sl true [.s [], .i .i64 0, .s []] [], .i .i64 0, .s [], .i .i64 0, .s [], .s [], .i .i64 0, .s []] (((GRule.mk a_Kind (GAtom.mk a_Head_Name a_Head_Args) a_Body).Body).map (GLit.cells true true))])) := famP_eq _ (by rintro ⟨_, ⟨_, _⟩, _⟩ ⟨_, ⟨_, _⟩, _⟩ h; simp at h; simp_all) (GRule.mk a_Kind (GAtom.mk a_Head_Name a_Head_Args) a_Body)
theorem c_laws_toRule_ok : ∀ vs q o r, c_laws_toRule vs = some (q, o, r) → q → SpecO Tryz.prog 48 vs o r := famP_ok _
def ac_laws_toRuleS : ACode := q' ([o' 2 (.mov (.k (.v false [.nl [.i .i64 0, .s [], .sl false [.s [], .i .i64 0, .s []] [], .sl false [.i .i64 0, .s [], .sl false [.s [], .i .i64 0, .s []]
  [], .i .i64 0, .s [], .i .i64 0, .s [], .s [], .i .i64 0, .s []] []]])))]) (q' ([m' 5 0, n' 6 5, o' 7 (.mks 4 72 [.i .i64, .s, .sl [.s [], .i .i64 0, .s []],
  .sl [.i .i64 0, .s [], .sl false [.s [], .i .i64 0, .s []] [], .i .i64 0, .s [], .i .i64 0, .s [], .s [], .i .i64 0, .s []]] (.t 6) (.t 6)), m' 3 7]) (.seq
  (q' ([z' 4 0]) (.block 0 (.loop (.seq (q' ([m' 8 4, m' 9 0, n' 10 9, r' 11 8 10]) (.cond (.t 11) .skip (.exit 0))) (.seq (.block 1 (g' [m' 14 3, m' 15 4, m'
  16 0, m' 17 4, i' 18 4 16 17, e' 19 4 18, c' 20 48 [19], i' 21 4 14 15, s' 4 21 20])) (g' [m' 12 4, a' 13 12, m' 4 13])))))) (q' ([m' 22 3, m' 2 22]) .ret)))
theorem hc_laws_toRuleS : Tryz.f65.body.bind (comp Tryz.prog Tryz.f65.ntmps) = some ac_laws_toRuleS := by kernel_rfl
theorem k_laws_toRuleS (a : List GRule) (hpre : (((a.length + tots totRule a) : Nat) : Int) ≤ 1048576) : SpecO Tryz.prog 65 [(false, [.sl false [.i .i64 0, .s [], .sl false [.s [], .i .i64 0, .s []] [], .sl false [.i .i64 0, .s [], .sl false [.s [], .i .i64 0, .s []] [], .i .i64 0, .s [], .i .i64 0, .s [], .s [], .i .i64 0, .s []] []] (a.map (GRule.cells false false))])] [] (.one (false, [.sl true [.i .i64 0, .s [], .sl true [.s [], .i .i64 0, .s []] [], .sl true [.i .i64 0, .s [], .sl true [.s [], .i .i64 0, .s []] [], .i .i64 0, .s [], .i .i64 0, .s [], .s [], .i .i64 0, .s []] []] (a.map (GRule.cells true true))])) := by
  refine spec_of2 true false none Tryz.func65 hc_laws_toRuleS (rvs := [.t 2]) (hΓ := mkCtx_ok (deep := true) (l := [(48, [], c_laws_toRule)]) ⟨c_laws_toRule_ok, trivial⟩) (h := ?_)
  intro hb hE
  simp only [go_sem] at hb
  dsimp only [ac_laws_toRuleS, List.map_cons, List.map_nil, m', f', l', e', n', z', b', a', r', s', i', w', c', o', k', g', q']
  (try refine AX_AW ?_); simp only [go_sem, GRule_rep]; (repeat' first | apply CJ.mk | intro hc); all_goals try ((repeat' first | apply And.intro | intro hs) <;> (try simp only [go_sem, Bool.and_eq_false_iff] at hs) <;> omega)
  refine aw_loop2 true [] [0, 3] [] [] (fun i : {p : Nat × (List GRule) // p.1 ≤ a.length ∧ p.2.length = a.length ∧ p.2.take p.1 = a.take p.1} => [(4, slV (.i .i64 i.1.1))]) (fun i => []) (fun i => [(896, [.i .i64 0, .s [], .sl true [.s [], .i .i64 0, .s []] [], .sl true [.i .i64 0, .s [], .sl true [.s [], .i .i64 0, .s []] [], .i .i64 0, .s [], .i .i64 0, .s [], .s [], .i .i64 0, .s []] []], i.1.2.map (GRule.cells true true))]) (fun i => a.length - i.1.1) (⟨(0, List.replicate a.length default), by simp⟩) _ rfl ?_ ?_
  · simp only [go_sem, GRule_rep]
    all_goals first | omega | ((repeat' apply And.intro) <;> first | omega | rfl | skip)
  intro S0 hS0 i
  simp only [go_sem, GRule_rep] at hS0
  obtain ⟨⟨i, L⟩, hi, hl, ht⟩ := i
  simp only at hi hl ht
  have hg := tots_getD totRule a i default rfl
  (try refine AX_AW ?_); simp only [go_sem, GRule_rep, hS0]; (repeat' first | apply CJ.mk | intro hc); all_goals try ((repeat' first | apply And.intro | intro hs) <;> (try simp only [go_sem, Bool.and_eq_false_iff] at hs) <;> omega)
  · (refine lpK_n2 (⟨(i + 1, L.set i (a.getD i default)), by simp only; omega, by simp [hl], take_set_succ hl ht (by omega)⟩) _ rfl ?_; simp only [go_sem, GRule_rep, hS0]; first | done | ((repeat' apply And.intro) <;> first | omega | (refine w64 ?_ ?_ ?_ <;> omega) | rfl | skip))
  · obtain rfl := eq_of_take hl ht (by omega)
    rfl
  all_goals trace_state
noncomputable def c_laws_toRuleS : List V → Option (Prop × List (Nat × V) × R) := famP (fun (x : (List GRule)) h => k_laws_toRuleS x h)
@[go_sem] theorem c_laws_toRuleS_eq (a : List GRule) : c_laws_toRuleS [(false, [.sl false [.i .i64 0, .s [], .sl false [.s [], .i .i64 0, .s []] [], .sl false [.i .i64 0, .s [], .sl false [.s [], .i .i64 0, .s []] [], .i .i64 0, .s [], .i .i64 0, .s [], .s [], .i .i64 0, .s []] []] (a.map (GRule.cells false false))])] = some ((((a.length + tots totRule a) : Nat) : Int) ≤ 1048576, [], .one (false, [.sl true [.i .i64 0, .s [], .sl true [.s [], .i .i64 0, .s []] [], .sl true [.i .i64 0, .s [], .sl true [.s [], .i .i64 0, .s []] [], .i .i64 0, .s [], .i .i64 0, .s [], .s [], .i .i64 0, .s []] []] (a.map (GRule.cells true true))])) := famP_eq _ (by intro x y h; simp at h; simp_all) a
theorem c_laws_toRuleS_ok : ∀ vs q o r, c_laws_toRuleS vs = some (q, o, r) → q → SpecO Tryz.prog 65 vs o r := famP_ok _
def ac_laws_toDecl : ACode := q' ([o' 1 (.box 3 (.t 0)), w' 2 [.i .i64, .s, .i .i64]]) (q' ([w' 3 [.i .i64, .s, .i .i64]]) (q' ([f' 4 0 1, l' 5 4, f' 6 0 3, s' 1 6 5]) (q' ([f' 7 1 1, l' 8
  7, f' 9 1 3, s' 1 9 8]) (q' ([f' 10 2 1, l' 11 10, f' 12 2 3, s' 1 12 11]) (q' ([e' 13 3 3, s' 3 2 13]) .ret)))))
theorem hc_laws_toDecl : Tryz.f137.body.bind (comp Tryz.prog Tryz.f137.ntmps) = some ac_laws_toDecl := by kernel_rfl
theorem k_laws_toDecl (a : GDecl) : SpecO Tryz.prog 137 [(true, [.i .i64 a.Kind, .s a.Name, .i .i64 a.Arity])] [] (.one (true, [.i .i64 a.Kind, .s a.Name, .i .i64 a.Arity])) := by
  refine spec_of2 true false none Tryz.func137 hc_laws_toDecl (rvs := [.c 2 true 3]) (hΓ := mkCtx_ok (deep := true) (l := []) trivial) (h := ?_)
  intro hb hE
  simp only [go_sem] at hb
  dsimp only [ac_laws_toDecl, List.map_cons, List.map_nil, m', f', l', e', n', z', b', a', r', s', i', w', c', o', k', g', q']
  (try refine AX_AW ?_); simp only [go_sem]; (repeat' first | apply CJ.mk | intro hc); all_goals try ((repeat' first | apply And.intro | intro hs) <;> (try simp only [go_sem, Bool.and_eq_false_iff] at hs) <;> omega)
noncomputable def c_laws_toDecl : List V → Option (Prop × List (Nat × V) × R) := famQ (fun (x : GDecl) => k_laws_toDecl x)
@[go_sem] theorem c_laws_toDecl_eq (a_Kind : Int) (a_Name : List UInt8) (a_Arity : Int) : c_laws_toDecl [(true, [.i .i64 a_Kind, .s a_Name, .i .i64 a_Arity])] = some (True, [], .one (true, [.i .i64 ((GDecl.mk a_Kind a_Name a_Arity).Kind), .s ((GDecl.mk a_Kind a_Name a_Arity).Name), .i .i64 ((GDecl.mk a_Kind a_Name a_Arity).Arity)])) := famQ_eq _ (by rintro ⟨_, _, _⟩ ⟨_, _, _⟩ h; simp at h; simp_all) (GDecl.mk a_Kind a_Name a_Arity)
theorem c_laws_toDecl_ok : ∀ vs q o r, c_laws_toDecl vs = some (q, o, r) → q → SpecO Tryz.prog 137 vs o r := famQ_ok _
def ac_laws_toDeclS : ACode := q' ([o' 2 (.mov (.k (.v false [.nl [.i .i64 0, .s [], .i .i64 0]])))]) (q' ([m' 5 0, n' 6 5, o' 7 (.mks 3 32 [.i .i64, .s, .i .i64] (.t 6) (.t 6)), m' 3 7])
  (.seq (q' ([z' 4 0]) (.block 0 (.loop (.seq (q' ([m' 8 4, m' 9 0, n' 10 9, r' 11 8 10]) (.cond (.t 11) .skip (.exit 0))) (.seq (.block 1 (g' [m' 14 3, m' 15
  4, m' 16 0, m' 17 4, i' 18 3 16 17, e' 19 3 18, c' 20 137 [19], i' 21 3 14 15, s' 3 21 20])) (g' [m' 12 4, a' 13 12, m' 4 13])))))) (q' ([m' 22 3, m' 2 22])
  .ret)))
theorem hc_laws_toDeclS : Tryz.f64.body.bind (comp Tryz.prog Tryz.f64.ntmps) = some ac_laws_toDeclS := by kernel_rfl
theorem k_laws_toDeclS (a : List GDecl) (hpre : (((a.length + tots totDecl a) : Nat) : Int) ≤ 1048576) : SpecO Tryz.prog 64 [(false, [.sl false [.i .i64 0, .s [], .i .i64 0] (a.map GDecl.cells)])] [] (.one (false, [.sl true [.i .i64 0, .s [], .i .i64 0] (a.map GDecl.cells)])) := by
  refine spec_of2 true false none Tryz.func64 hc_laws_toDeclS (rvs := [.t 2]) (hΓ := mkCtx_ok (deep := true) (l := [(137, [], c_laws_toDecl)]) ⟨c_laws_toDecl_ok, trivial⟩) (h := ?_)
  intro hb hE
  simp only [go_sem] at hb
  dsimp only [ac_laws_toDeclS, List.map_cons, List.map_nil, m', f', l', e', n', z', b', a', r', s', i', w', c', o', k', g', q']
  (try refine AX_AW ?_); simp only [go_sem, GDecl_rep]; (repeat' first | apply CJ.mk | intro hc); all_goals try ((repeat' first | apply And.intro | intro hs) <;> (try simp only [go_sem, Bool.and_eq_false_iff] at hs) <;> omega)
  refine aw_loop2 true [] [0, 3] [] [] (fun i : {p : Nat × (List GDecl) // p.1 ≤ a.length ∧ p.2.length = a.length ∧ p.2.take p.1 = a.take p.1} => [(4, slV (.i .i64 i.1.1))]) (fun i => []) (fun i => [(896, [.i .i64 0, .s [], .i .i64 0], i.1.2.map GDecl.cells)]) (fun i => a.length - i.1.1) (⟨(0, List.replicate a.length default), by simp⟩) _ rfl ?_ ?_
  · simp only [go_sem, GDecl_rep]
    all_goals first | omega | ((repeat' apply And.intro) <;> first | omega | rfl | skip)
  intro S0 hS0 i
  simp only [go_sem, GDecl_rep] at hS0
  obtain ⟨⟨i, L⟩, hi, hl, ht⟩ := i
  simp only at hi hl ht
  (try refine AX_AW ?_); simp only [go_sem, GDecl_rep, hS0]; (repeat' first | apply CJ.mk | intro hc); all_goals try ((repeat' first | apply And.intro | intro hs) <;> (try simp only [go_sem, Bool.and_eq_false_iff] at hs) <;> omega)
  · (refine lpK_n2 (⟨(i + 1, L.set i (a.getD i default)), by simp only; omega, by simp [hl], take_set_succ hl ht (by omega)⟩) _ rfl ?_; simp only [go_sem, GDecl_rep, hS0]; first | done | ((repeat' apply And.intro) <;> first | omega | (refine w64 ?_ ?_ ?_ <;> omega) | rfl | skip))
  · obtain rfl := eq_of_take hl ht (by omega)
    rfl
  all_goals trace_state
noncomputable def c_laws_toDeclS : List V → Option (Prop × List (Nat × V) × R) := famP (fun (x : (List GDecl)) h => k_laws_toDeclS x h)
@[go_sem] theorem c_laws_toDeclS_eq (a : List GDecl) : c_laws_toDeclS [(false, [.sl false [.i .i64 0, .s [], .i .i64 0] (a.map GDecl.cells)])] = some ((((a.length + tots totDecl a) : Nat) : Int) ≤ 1048576, [], .one (false, [.sl true [.i .i64 0, .s [], .i .i64 0] (a.map GDecl.cells)])) := famP_eq _ (by intro x y h; simp at h; simp_all) a
theorem c_laws_toDeclS_ok : ∀ vs q o r, c_laws_toDeclS vs = some (q, o, r) → q → SpecO Tryz.prog 64 vs o r := famP_ok _
def ac_laws_toProgram : ACode := q' ([o' 1 (.box 2 (.t 0)), w' 2 [.sl [.i .i64 0, .s [], .i .i64 0], .sl [.i .i64 0, .s [], .sl false [.s [], .i .i64 0, .s []] [], .sl false [.i .i64 0, .s [],
  .sl false [.s [], .i .i64 0, .s []] [], .i .i64 0, .s [], .i .i64 0, .s [], .s [], .i .i64 0, .s []] []]]]) (q' ([w' 3 [.sl [.i .i64 0, .s [], .i .i64 0], .sl
  [.i .i64 0, .s [], .sl false [.s [], .i .i64 0, .s []] [], .sl false [.i .i64 0, .s [], .sl false [.s [], .i .i64 0, .s []] [], .i .i64 0, .s [], .i .i64 0,
  .s [], .s [], .i .i64 0, .s []] []]]]) (q' ([f' 4 0 1, l' 5 4, c' 6 64 [5], f' 7 0 3, s' 1 7 6]) (q' ([f' 8 1 1, l' 9 8, c' 10 65 [9], f' 11 1 3, s' 1 11 10])
  (q' ([e' 12 2 3, s' 2 2 12]) .ret))))
theorem hc_laws_toProgram : Tryz.f14.body.bind (comp Tryz.prog Tryz.f14.ntmps) = some ac_laws_toProgram := by kernel_rfl
theorem k_laws_toProgram (a : GProgram) (hpre : (totProgram a : Int) ≤ 1048576) : SpecO Tryz.prog 14 [(true, [.sl false [.i .i64 0, .s [], .i .i64 0] (a.Decls.map GDecl.cells), .sl false [.i .i64 0, .s [], .sl false [.s [], .i .i64 0, .s []] [], .sl false [.i .i64 0, .s [], .sl false [.s [], .i .i64 0, .s []] [], .i .i64 0, .s [], .i .i64 0, .s [], .s [], .i .i64 0, .s []] []] (a.Rules.map (GRule.cells false false))])] [] (.one (true, [.sl true [.i .i64 0, .s [], .i .i64 0] (a.Decls.map GDecl.cells), .sl true [.i .i64 0, .s [], .sl true [.s [], .i .i64 0, .s []] [], .sl true [.i .i64 0, .s [], .sl true [.s [], .i .i64 0, .s []] [], .i .i64 0, .s [], .i .i64 0, .s [], .s [], .i .i64 0, .s []] []] (a.Rules.map (GRule.cells true true))])) := by
  refine spec_of2 true false none Tryz.func14 hc_laws_toProgram (rvs := [.c 2 true 2]) (hΓ := mkCtx_ok (deep := true) (l := [(64, [], c_laws_toDeclS), (65, [], c_laws_toRuleS)]) ⟨c_laws_toDeclS_ok, c_laws_toRuleS_ok, trivial⟩) (h := ?_)
  intro hb hE
  simp only [go_sem] at hb
  dsimp only [ac_laws_toProgram, List.map_cons, List.map_nil, m', f', l', e', n', z', b', a', r', s', i', w', c', o', k', g', q']
  (try refine AX_AW ?_); simp only [go_sem]; (repeat' first | apply CJ.mk | intro hc); all_goals try ((repeat' first | apply And.intro | intro hs) <;> (try simp only [go_sem, Bool.and_eq_false_iff] at hs) <;> omega)
  all_goals (simp only [totProgram] at *; omega)
noncomputable def c_laws_toProgram : List V → Option (Prop × List (Nat × V) × R) := famP (fun (x : GProgram) h => k_laws_toProgram x h)
@[go_sem] theorem c_laws_toProgram_eq (a_Decls : List GDecl) (a_Rules : List GRule) : c_laws_toProgram [(true, [.sl false [.i .i64 0, .s [], .i .i64 0] (a_Decls.map GDecl.cells), .sl false [.i .i64 0, .s [], .sl false [.s [], .i .i64 0, .s []] [], .sl false [.i .i64 0, .s [], .sl false [.s [], .i .i64 0, .s []] [], .i .i64 0, .s [], .i .i64 0, .s [], .s [], .i .i64 0, .s []] []] (a_Rules.map (GRule.cells false false))])] = some ((totProgram (GProgram.mk a_Decls a_Rules) : Int) ≤ 1048576, [], .one (true, [.sl true [.i .i64 0, .s [], .i .i64 0] (((GProgram.mk a_Decls a_Rules).Decls).map GDecl.cells), .sl true [.i .i64 0, .s [], .sl true [.s [], .i .i64 0, .s []] [], .sl true [.i .i64 0, .s [], .sl true [.s [], .i .i64 0, .s []] [], .i .i64 0, .s [], .i .i64 0, .s [], .s [], .i .i64 0, .s []] []] (((GProgram.mk a_Decls a_Rules).Rules).map (GRule.cells true true))])) := famP_eq _ (by rintro ⟨_, _⟩ ⟨_, _⟩ h; simp at h; simp_all) (GProgram.mk a_Decls a_Rules)
theorem c_laws_toProgram_ok : ∀ vs q o r, c_laws_toProgram vs = some (q, o, r) → q → SpecO Tryz.prog 14 vs o r := famP_ok _
def ac_laws_eqAtom : ACode := q' ([o' 2 (.box 2 (.t 0)), o' 3 (.box 2 (.t 1)), b' 4 false]) (.seq (q' ([f' 5 0 2, l' 6 5, f' 7 0 3, l' 8 7, o' 9 (.bin .neq (.t 6) (.t 8))]) (.cond (.t 9) (q'
  ([b' 4 false]) .ret) .skip)) (.seq (q' ([f' 10 1 2, l' 11 10, f' 12 1 3, l' 13 12, c' 14 205 [11, 13], o' 15 (.not (.t 14))]) (.cond (.t 15) (q' ([b' 4
  false]) .ret) .skip)) (q' ([b' 4 true]) .ret)))
theorem hc_laws_eqAtom : Tryz.f122.body.bind (comp Tryz.prog Tryz.f122.ntmps) = some ac_laws_eqAtom := by kernel_rfl
theorem k_laws_eqAtom (a : GAtom) (b : GAtom) : SpecO Tryz.prog 122 [(true, [.s a.Name, .sl false [.s [], .i .i64 0, .s []] (a.Args.map GTerm.cells)]), (true, [.s b.Name, .sl false [.s [], .i .i64 0, .s []] (b.Args.map GTerm.cells)])] [] (.one (false, [.b (decide (a = b))])) := by
  refine spec_of2 false false none Tryz.func122 hc_laws_eqAtom (rvs := [.t 4]) (hΓ := mkCtx_ok (deep := false) (l := [(205, [], c_laws_eqTermS)]) ⟨c_laws_eqTermS_ok, trivial⟩) (h := ?_)
  intro hb hE
  simp only [go_sem] at hb
  dsimp only [ac_laws_eqAtom, List.map_cons, List.map_nil, m', f', l', e', n', z', b', a', r', s', i', w', c', o', k', g', q']
  (try refine AX_AW ?_); simp only [go_sem]; (repeat' first | apply CJ.mk | intro hc); all_goals try ((repeat' first | apply And.intro | intro hs) <;> (try simp only [go_sem, Bool.and_eq_false_iff] at hs) <;> omega)
  all_goals (cases a; cases b; simp_all)
noncomputable def c_laws_eqAtom : List V → Option (Prop × List (Nat × V) × R) := famQ (fun (x : GAtom × GAtom) => k_laws_eqAtom x.1 x.2)
@[go_sem] theorem c_laws_eqAtom_eq (a_Name : List UInt8) (a_Args : List GTerm) (b_Name : List UInt8) (b_Args : List GTerm) : c_laws_eqAtom [(true, [.s a_Name, .sl false [.s [], .i .i64 0, .s []] (a_Args.map GTerm.cells)]), (true, [.s b_Name, .sl false [.s [], .i .i64 0, .s []] (b_Args.map GTerm.cells)])] = some (True, [], .one (false, [.b (decide ((GAtom.mk a_Name a_Args) = (GAtom.mk b_Name b_Args)))])) := famQ_eq _ (by rintro ⟨⟨_, _⟩, ⟨_, _⟩⟩ ⟨⟨_, _⟩, ⟨_, _⟩⟩ h; simp at h; simp_all) ((GAtom.mk a_Name a_Args), (GAtom.mk b_Name b_Args))
theorem c_laws_eqAtom_ok : ∀ vs q o r, c_laws_eqAtom vs = some (q, o, r) → q → SpecO Tryz.prog 122 vs o r := famQ_ok _
def ac_laws_eqLit : ACode := q' ([o' 2 (.box 10 (.t 0)), o' 3 (.box 10 (.t 1)), b' 4 false]) (.seq (q' ([f' 5 0 2, l' 6 5, f' 7 0 3, l' 8 7, o' 9 (.bin .neq (.t 6) (.t 8))]) (.cond (.t 9)
  (q' ([b' 4 false]) .ret) .skip)) (.seq (q' ([f' 10 1 2, e' 11 2 10, f' 12 1 3, e' 13 2 12, c' 14 122 [11, 13], o' 15 (.not (.t 14))]) (.cond (.t 15) (q' ([b'
  4 false]) .ret) .skip)) (.seq (q' ([f' 16 3 2, l' 17 16, f' 18 3 3, l' 19 18, o' 20 (.bin .neq (.t 17) (.t 19))]) (.cond (.t 20) (q' ([b' 4 false]) .ret)
  .skip)) (.seq (q' ([f' 21 4 2, e' 22 3 21, f' 23 4 3, e' 24 3 23, c' 25 289 [22, 24], o' 26 (.not (.t 25))]) (.cond (.t 26) (q' ([b' 4 false]) .ret) .skip))
  (.seq (q' ([f' 27 7 2, e' 28 3 27, f' 29 7 3, e' 30 3 29, c' 31 289 [28, 30], o' 32 (.not (.t 31))]) (.cond (.t 32) (q' ([b' 4 false]) .ret) .skip)) (q' ([b'
  4 true]) .ret))))))
theorem hc_laws_eqLit : Tryz.f206.body.bind (comp Tryz.prog Tryz.f206.ntmps) = some ac_laws_eqLit := by kernel_rfl
theorem k_laws_eqLit (a : GLit) (b : GLit) : SpecO Tryz.prog 206 [(true, [.i .i64 a.Kind, .s a.Atom.Name, .sl false [.s [], .i .i64 0, .s []] (a.Atom.Args.map GTerm.cells), .i .i64 a.Op, .s a.A.Var, .i .i64 a.A.Val.N, .s a.A.Val.S, .s a.B.Var, .i .i64 a.B.Val.N, .s a.B.Val.S]), (true, [.i .i64 b.Kind, .s b.Atom.Name, .sl false [.s [], .i .i64 0, .s []] (b.Atom.Args.map GTerm.cells), .i .i64 b.Op, .s b.A.Var, .i .i64 b.A.Val.N, .s b.A.Val.S, .s b.B.Var, .i .i64 b.B.Val.N, .s b.B.Val.S])] [] (.one (false, [.b (decide (a = b))])) := by
  refine spec_of2 false false none Tryz.func206 hc_laws_eqLit (rvs := [.t 4]) (hΓ := mkCtx_ok (deep := false) (l := [(122, [], c_laws_eqAtom), (289, [], c_laws_eqTerm)]) ⟨c_laws_eqAtom_ok, c_laws_eqTerm_ok, trivial⟩) (h := ?_)
  intro hb hE
  simp only [go_sem] at hb
  dsimp only [ac_laws_eqLit, List.map_cons, List.map_nil, m', f', l', e', n', z', b', a', r', s', i', w', c', o', k', g', q']
  (try refine AX_AW ?_); simp only [go_sem]; (repeat' first | apply CJ.mk | intro hc); all_goals try ((repeat' first | apply And.intro | intro hs) <;> (try simp only [go_sem, Bool.and_eq_false_iff] at hs) <;> omega)
  all_goals (cases a; cases b; simp_all)
noncomputable def c_laws_eqLit : List V → Option (Prop × List (Nat × V) × R) := famQ (fun (x : GLit × GLit) => k_laws_eqLit x.1 x.2)
@[go_sem] theorem c_laws_eqLit_eq (a_Kind : Int) (a_Atom_Name : List UInt8) (a_Atom_Args : List GTerm) (a_Op : Int) (a_A_Var : List UInt8) (a_A_Val_N : Int) (a_A_Val_S : List UInt8) (a_B_Var : List UInt8) (a_B_Val_N : Int) (a_B_Val_S : List UInt8) (b_Kind : Int) (b_Atom_Name : List UInt8) (b_Atom_Args : List GTerm) (b_Op : Int) (b_A_Var : List UInt8) (b_A_Val_N : Int) (b_A_Val_S : List UInt8) (b_B_Var : List UInt8) (b_B_Val_N : Int) (b_B_Val_S : List UInt8) : c_laws_eqLit [(true, [.i .i64 a_Kind, .s a_Atom_Name, .sl false [.s [], .i .i64 0, .s []] (a_Atom_Args.map GTerm.cells), .i .i64 a_Op, .s a_A_Var, .i .i64 a_A_Val_N, .s a_A_Val_S, .s a_B_Var, .i .i64 a_B_Val_N, .s a_B_Val_S]), (true, [.i .i64 b_Kind, .s b_Atom_Name, .sl false [.s [], .i .i64 0, .s []] (b_Atom_Args.map GTerm.cells), .i .i64 b_Op, .s b_A_Var, .i .i64 b_A_Val_N, .s b_A_Val_S, .s b_B_Var, .i .i64 b_B_Val_N, .s b_B_Val_S])] = some (True, [], .one (false, [.b (decide ((GLit.mk a_Kind (GAtom.mk a_Atom_Name a_Atom_Args) a_Op (GTerm.mk a_A_Var (GValue.mk a_A_Val_N a_A_Val_S)) (GTerm.mk a_B_Var (GValue.mk a_B_Val_N a_B_Val_S))) = (GLit.mk b_Kind (GAtom.mk b_Atom_Name b_Atom_Args) b_Op (GTerm.mk b_A_Var (GValue.mk b_A_Val_N b_A_Val_S)) (GTerm.mk b_B_Var (GValue.mk b_B_Val_N b_B_Val_S)))))])) := famQ_eq _ (by rintro ⟨⟨_, ⟨_, _⟩, _, ⟨_, ⟨_, _⟩⟩, ⟨_, ⟨_, _⟩⟩⟩, ⟨_, ⟨_, _⟩, _, ⟨_, ⟨_, _⟩⟩, ⟨_, ⟨_, _⟩⟩⟩⟩ ⟨⟨_, ⟨_, _⟩, _, ⟨_, ⟨_, _⟩⟩, ⟨_, ⟨_, _⟩⟩⟩, ⟨_, ⟨_, _⟩, _, ⟨_, ⟨_, _⟩⟩, ⟨_, ⟨_, _⟩⟩⟩⟩ h; simp at h; simp_all) ((GLit.mk a_Kind (GAtom.mk a_Atom_Name a_Atom_Args) a_Op (GTerm.mk a_A_Var (GValue.mk a_A_Val_N a_A_Val_S)) (GTerm.mk a_B_Var (GValue.mk a_B_Val_N a_B_Val_S))), (GLit.mk b_Kind (GAtom.mk b_Atom_Name b_Atom_Args) b_Op (GTerm.mk b_A_Var (GValue.mk b_A_Val_N b_A_Val_S)) (GTerm.mk b_B_Var (GValue.mk b_B_Val_N b_B_Val_S))))
theorem c_laws_eqLit_ok : ∀ vs q o r, c_laws_eqLit vs = some (q, o, r) → q → SpecO Tryz.prog 206 vs o r := famQ_ok _
def ac_laws_eqLitS : ACode := q' ([b' 4 false]) (.seq (q' ([m' 6 0, n' 7 6, m' 8 1, n' 9 8, o' 10 (.bin .neq (.t 7) (.t 9))]) (.cond (.t 10) (q' ([b' 4 false]) .ret) .skip)) (.seq (q' ([z' 5
  0]) (.block 0 (.loop (.seq (q' ([m' 11 5, m' 12 0, n' 13 12, r' 14 11 13]) (.cond (.t 14) .skip (.exit 0))) (.seq (.block 1 (.seq (.reg true [m' 17 0, m' 18
  5, i' 19 10 17 18, e' 20 10 19, m' 21 1, m' 22 5, i' 23 10 21 22, e' 24 10 23, c' 25 206 [20, 24], o' 26 (.not (.t 25))]) (.cond (.t 26) (q' ([b' 4 false])
  .ret) .skip))) (g' [m' 15 5, a' 16 15, m' 5 16])))))) (q' ([b' 4 true]) .ret)))
theorem hc_laws_eqLitS : Tryz.f123.body.bind (comp Tryz.prog Tryz.f123.ntmps) = some ac_laws_eqLitS := by kernel_rfl
theorem k_laws_eqLitS (a : List GLit) (b : List GLit) : SpecO Tryz.prog 123 [(false, [.sl false [.i .i64 0, .s [], .sl false [.s [], .i .i64 0, .s []] [], .i .i64 0, .s [], .i .i64 0, .s [], .s [], .i .i64 0, .s []] (a.map (GLit.cells false false))]), (false, [.sl false [.i .i64 0, .s [], .sl false [.s [], .i .i64 0, .s []] [], .i .i64 0, .s [], .i .i64 0, .s [], .s [], .i .i64 0, .s []] (b.map (GLit.cells false false))])] [] (.one (false, [.b (decide (a = b))])) := by
  refine spec_of2 false false none Tryz.func123 hc_laws_eqLitS (rvs := [.t 4]) (hΓ := mkCtx_ok (deep := false) (l := [(206, [], c_laws_eqLit)]) ⟨c_laws_eqLit_ok, trivial⟩) (h := ?_)
  intro hb hE
  simp only [go_sem] at hb
  dsimp only [ac_laws_eqLitS, List.map_cons, List.map_nil, m', f', l', e', n', z', b', a', r', s', i', w', c', o', k', g', q']
  (try refine AX_AW ?_); simp only [go_sem]; (repeat' first | apply CJ.mk | intro hc); all_goals try ((repeat' first | apply And.intro | intro hs) <;> (try simp only [go_sem, Bool.and_eq_false_iff] at hs) <;> omega)
  · symm
    rw [decide_eq_false_iff_not]
    rintro rfl
    simp at hc
  have hl : a.length = b.length := by simpa [Int.ofNat_inj] using hc
  refine aw_loop2 false [] [0, 1] [] [] (fun i : {i : Nat // i ≤ a.length ∧ a.take i = b.take i} => [(5, slV (.i .i64 i.1))]) (fun i => []) (fun i => []) (fun i => a.length - i.1) (⟨0, by simp⟩) _ rfl ?_ ?_
  · simp only [go_sem]
    all_goals first | omega | ((repeat' apply And.intro) <;> first | omega | rfl | skip)
  intro S0 hS0 i
  simp only [go_sem] at hS0
  obtain ⟨i, hi, ht⟩ := i
  (try refine AX_AW ?_); simp only [go_sem, hS0]; (repeat' first | apply CJ.mk | intro hc); all_goals try ((repeat' first | apply And.intro | intro hs) <;> (try simp only [go_sem, Bool.and_eq_false_iff] at hs) <;> omega)
  · exact (decide_eq_false (ne_of_getD default (i := i) (by simpa using hc))).symm
  · (refine lpK_n2 (⟨i + 1, by omega, take_succ_eq ht (by omega) (by omega) (d := default) (by simpa using hc)⟩) _ rfl ?_; simp only [go_sem, hS0]; first | done | ((repeat' apply And.intro) <;> first | omega | (refine w64 ?_ ?_ ?_ <;> omega) | rfl | skip))
  · exact (decide_eq_true (eq_of_take hl ht (by omega))).symm
  all_goals trace_state
noncomputable def c_laws_eqLitS : List V → Option (Prop × List (Nat × V) × R) := famQ (fun (x : (List GLit) × (List GLit)) => k_laws_eqLitS x.1 x.2)
@[go_sem] theorem c_laws_eqLitS_eq (a : List GLit) (b : List GLit) : c_laws_eqLitS [(false, [.sl false [.i .i64 0, .s [], .sl false [.s [], .i .i64 0, .s []] [], .i .i64 0, .s [], .i .i64 0, .s [], .s [], .i .i64 0, .s []] (a.map (GLit.cells false false))]), (false, [.sl false [.i .i64 0, .s [], .sl false [.s [], .i .i64 0, .s []] [], .i .i64 0, .s [], .i .i64 0, .s [], .s [], .i .i64 0, .s []] (b.map (GLit.cells false false))])] = some (True, [], .one (false, [.b (decide (a = b))])) := famQ_eq _ (by rintro ⟨_, _⟩ ⟨_, _⟩ h; simp at h; simp_all) (a, b)
theorem c_laws_eqLitS_ok : ∀ vs q o r, c_laws_eqLitS vs = some (q, o, r) → q → SpecO Tryz.prog 123 vs o r := famQ_ok _
def ac_laws_eqRule : ACode := q' ([o' 2 (.box 4 (.t 0)), o' 3 (.box 4 (.t 1)), b' 4 false]) (.seq (q' ([f' 5 0 2, l' 6 5, f' 7 0 3, l' 8 7, o' 9 (.bin .neq (.t 6) (.t 8))]) (.cond (.t 9) (q'
  ([b' 4 false]) .ret) .skip)) (.seq (q' ([f' 10 1 2, e' 11 2 10, f' 12 1 3, e' 13 2 12, c' 14 122 [11, 13], o' 15 (.not (.t 14))]) (.cond (.t 15) (q' ([b' 4
  false]) .ret) .skip)) (.seq (q' ([f' 16 3 2, l' 17 16, f' 18 3 3, l' 19 18, c' 20 123 [17, 19], o' 21 (.not (.t 20))]) (.cond (.t 21) (q' ([b' 4 false]) .ret)
  .skip)) (q' ([b' 4 true]) .ret))))
theorem hc_laws_eqRule : Tryz.f51.body.bind (comp Tryz.prog Tryz.f51.ntmps) = some ac_laws_eqRule := by kernel_rfl
theorem k_laws_eqRule (a : GRule) (b : GRule) : SpecO Tryz.prog 51 [(true, [.i .i64 a.Kind, .s a.Head.Name, .sl false [.s [], .i .i64 0, .s []] (a.Head.Args.map GTerm.cells), .sl false [.i .i64 0, .s [], .sl false [.s [], .i .i64 0, .s []] [], .i .i64 0, .s [], .i .i64 0, .s [], .s [], .i .i64 0, .s []] (a.Body.map (GLit.cells false false))]), (true, [.i .i64 b.Kind, .s b.Head.Name, .sl false [.s [], .i .i64 0, .s []] (b.Head.Args.map GTerm.cells), .sl false [.i .i64 0, .s [], .sl false [.s [], .i .i64 0, .s []] [], .i .i64 0, .s [], .i .i64 0, .s [], .s [], .i .i64 0, .s []] (b.Body.map (GLit.cells false false))])] [] (.one (false, [.b (decide (a = b))])) := by
  refine spec_of2 false false none Tryz.func51 hc_laws_eqRule (rvs := [.t 4]) (hΓ := mkCtx_ok (deep := false) (l := [(122, [], c_laws_eqAtom), (123, [], c_laws_eqLitS)]) ⟨c_laws_eqAtom_ok, c_laws_eqLitS_ok, trivial⟩) (h := ?_)
  intro hb hE
  simp only [go_sem] at hb
  dsimp only [ac_laws_eqRule, List.map_cons, List.map_nil, m', f', l', e', n', z', b', a', r', s', i', w', c', o', k', g', q']
  (try refine AX_AW ?_); simp only [go_sem]; (repeat' first | apply CJ.mk | intro hc); all_goals try ((repeat' first | apply And.intro | intro hs) <;> (try simp only [go_sem, Bool.and_eq_false_iff] at hs) <;> omega)
  all_goals (cases a; cases b; simp_all)
noncomputable def c_laws_eqRule : List V → Option (Prop × List (Nat × V) × R) := famQ (fun (x : GRule × GRule) => k_laws_eqRule x.1 x.2)
@[go_sem] theorem c_laws_eqRule_eq (a_Kind : Int) (a_Head_Name : List UInt8) (a_Head_Args : List GTerm) (a_Body : List GLit) (b_Kind : Int) (b_Head_Name : List UInt8) (b_Head_Args : List GTerm) (b_Body : List GLit) : c_laws_eqRule [(true, [.i .i64 a_Kind, .s a_Head_Name, .sl false [.s [], .i .i64 0, .s []] (a_Head_Args.map GTerm.cells), .sl false [.i .i64 0, .s [], .sl false [.s [], .i .i64 0, .s []] [], .i .i64 0, .s [], .i .i64 0, .s [], .s [], .i .i64 0, .s []] (a_Body.map (GLit.cells false false))]), (true, [.i .i64 b_Kind, .s b_Head_Name, .sl false [.s [], .i .i64 0, .s []] (b_Head_Args.map GTerm.cells), .sl false [.i .i64 0, .s [], .sl false [.s [], .i .i64 0, .s []] [], .i .i64 0, .s [], .i .i64 0, .s [], .s [], .i .i64 0, .s []] (b_Body.map (GLit.cells false false))])] = some (True, [], .one (false, [.b (decide ((GRule.mk a_Kind (GAtom.mk a_Head_Name a_Head_Args) a_Body) = (GRule.mk b_Kind (GAtom.mk b_Head_Name b_Head_Args) b_Body)))])) := famQ_eq _ (by rintro ⟨⟨_, ⟨_, _⟩, _⟩, ⟨_, ⟨_, _⟩, _⟩⟩ ⟨⟨_, ⟨_, _⟩, _⟩, ⟨_, ⟨_, _⟩, _⟩⟩ h; simp at h; simp_all) ((GRule.mk a_Kind (GAtom.mk a_Head_Name a_Head_Args) a_Body), (GRule.mk b_Kind (GAtom.mk b_Head_Name b_Head_Args) b_Body))
theorem c_laws_eqRule_ok : ∀ vs q o r, c_laws_eqRule vs = some (q, o, r) → q → SpecO Tryz.prog 51 vs o r := famQ_ok _
def ac_laws_eqRuleS : ACode := q' ([b' 4 false]) (.seq (q' ([m' 6 0, n' 7 6, m' 8 1, n' 9 8, o' 10 (.bin .neq (.t 7) (.t 9))]) (.cond (.t 10) (q' ([b' 4 false]) .ret) .skip)) (.seq (q' ([z' 5
  0]) (.block 0 (.loop (.seq (q' ([m' 11 5, m' 12 0, n' 13 12, r' 14 11 13]) (.cond (.t 14) .skip (.exit 0))) (.seq (.block 1 (.seq (.reg true [m' 17 0, m' 18
  5, i' 19 4 17 18, e' 20 4 19, m' 21 1, m' 22 5, i' 23 4 21 22, e' 24 4 23, c' 25 51 [20, 24], o' 26 (.not (.t 25))]) (.cond (.t 26) (q' ([b' 4 false]) .ret)
  .skip))) (g' [m' 15 5, a' 16 15, m' 5 16])))))) (q' ([b' 4 true]) .ret)))
theorem hc_laws_eqRuleS : Tryz.f70.body.bind (comp Tryz.prog Tryz.f70.ntmps) = some ac_laws_eqRuleS := by kernel_rfl
theorem k_laws_eqRuleS (a : List GRule) (b : List GRule) : SpecO Tryz.prog 70 [(false, [.sl false [.i .i64 0, .s [], .sl false [.s [], .i .i64 0, .s []] [], .sl false [.i .i64 0, .s [], .sl false [.s [], .i .i64 0, .s []] [], .i .i64 0, .s [], .i .i64 0, .s [], .s [], .i .i64 0, .s []] []] (a.map (GRule.cells false false))]), (false, [.sl false [.i .i64 0, .s [], .sl false [.s [], .i .i64 0, .s []] [], .sl false [.i .i64 0, .s [], .sl false [.s [], .i .i64 0, .s []] [], .i .i64 0, .s [], .i .i64 0, .s [], .s [], .i .i64 0, .s []] []] (b.map (GRule.cells false false))])] [] (.one (false, [.b (decide (a = b))])) := by
  refine spec_of2 false false none Tryz.func70 hc_laws_eqRuleS (rvs := [.t 4]) (hΓ := mkCtx_ok (deep := false) (l := [(51, [], c_laws_eqRule)]) ⟨c_laws_eqRule_ok, trivial⟩) (h := ?_)
  intro hb hE
  simp only [go_sem] at hb
  dsimp only [ac_laws_eqRuleS, List.map_cons, List.map_nil, m', f', l', e', n', z', b', a', r', s', i', w', c', o', k', g', q']
  (try refine AX_AW ?_); simp only [go_sem]; (repeat' first | apply CJ.mk | intro hc); all_goals try ((repeat' first | apply And.intro | intro hs) <;> (try simp only [go_sem, Bool.and_eq_false_iff] at hs) <;> omega)
  · symm
    rw [decide_eq_false_iff_not]
    rintro rfl
    simp at hc
  have hl : a.length = b.length := by simpa [Int.ofNat_inj] using hc
  refine aw_loop2 false [] [0, 1] [] [] (fun i : {i : Nat // i ≤ a.length ∧ a.take i = b.take i} => [(5, slV (.i .i64 i.1))]) (fun i => []) (fun i => []) (fun i => a.length - i.1) (⟨0, by simp⟩) _ rfl ?_ ?_
  · simp only [go_sem]
    all_goals first | omega | ((repeat' apply And.intro) <;> first | omega | rfl | skip)
  intro S0 hS0 i
  simp only [go_sem] at hS0
  obtain ⟨i, hi, ht⟩ := i
  (try refine AX_AW ?_); simp only [go_sem, hS0]; (repeat' first | apply CJ.mk | intro hc); all_goals try ((repeat' first | apply And.intro | intro hs) <;> (try simp only [go_sem, Bool.and_eq_false_iff] at hs) <;> omega)
  · exact (decide_eq_false (ne_of_getD default (i := i) (by simpa using hc))).symm
  · (refine lpK_n2 (⟨i + 1, by omega, take_succ_eq ht (by omega) (by omega) (d := default) (by simpa using hc)⟩) _ rfl ?_; simp only [go_sem, hS0]; first | done | ((repeat' apply And.intro) <;> first | omega | (refine w64 ?_ ?_ ?_ <;> omega) | rfl | skip))
  · exact (decide_eq_true (eq_of_take hl ht (by omega))).symm
  all_goals trace_state
noncomputable def c_laws_eqRuleS : List V → Option (Prop × List (Nat × V) × R) := famQ (fun (x : (List GRule) × (List GRule)) => k_laws_eqRuleS x.1 x.2)
@[go_sem] theorem c_laws_eqRuleS_eq (a : List GRule) (b : List GRule) : c_laws_eqRuleS [(false, [.sl false [.i .i64 0, .s [], .sl false [.s [], .i .i64 0, .s []] [], .sl false [.i .i64 0, .s [], .sl false [.s [], .i .i64 0, .s []] [], .i .i64 0, .s [], .i .i64 0, .s [], .s [], .i .i64 0, .s []] []] (a.map (GRule.cells false false))]), (false, [.sl false [.i .i64 0, .s [], .sl false [.s [], .i .i64 0, .s []] [], .sl false [.i .i64 0, .s [], .sl false [.s [], .i .i64 0, .s []] [], .i .i64 0, .s [], .i .i64 0, .s [], .s [], .i .i64 0, .s []] []] (b.map (GRule.cells false false))])] = some (True, [], .one (false, [.b (decide (a = b))])) := famQ_eq _ (by rintro ⟨_, _⟩ ⟨_, _⟩ h; simp at h; simp_all) (a, b)
theorem c_laws_eqRuleS_ok : ∀ vs q o r, c_laws_eqRuleS vs = some (q, o, r) → q → SpecO Tryz.prog 70 vs o r := famQ_ok _
def ac_laws_eqDecl : ACode := q' ([o' 2 (.box 3 (.t 0)), o' 3 (.box 3 (.t 1)), b' 4 false]) (.seq (q' ([f' 5 0 2, l' 6 5, f' 7 0 3, l' 8 7, o' 9 (.bin .neq (.t 6) (.t 8))]) (.cond (.t 9) (q'
  ([b' 4 false]) .ret) .skip)) (.seq (q' ([f' 10 1 2, l' 11 10, f' 12 1 3, l' 13 12, o' 14 (.bin .neq (.t 11) (.t 13))]) (.cond (.t 14) (q' ([b' 4 false]) .ret)
  .skip)) (.seq (q' ([f' 15 2 2, l' 16 15, f' 17 2 3, l' 18 17, o' 19 (.bin .neq (.t 16) (.t 18))]) (.cond (.t 19) (q' ([b' 4 false]) .ret) .skip)) (q' ([b' 4
  true]) .ret))))
theorem hc_laws_eqDecl : Tryz.f144.body.bind (comp Tryz.prog Tryz.f144.ntmps) = some ac_laws_eqDecl := by kernel_rfl
theorem k_laws_eqDecl (a : GDecl) (b : GDecl) : SpecO Tryz.prog 144 [(true, [.i .i64 a.Kind, .s a.Name, .i .i64 a.Arity]), (true, [.i .i64 b.Kind, .s b.Name, .i .i64 b.Arity])] [] (.one (false, [.b (decide (a = b))])) := by
  refine spec_of2 false false none Tryz.func144 hc_laws_eqDecl (rvs := [.t 4]) (hΓ := mkCtx_ok (deep := false) (l := []) trivial) (h := ?_)
  intro hb hE
  simp only [go_sem] at hb
  dsimp only [ac_laws_eqDecl, List.map_cons, List.map_nil, m', f', l', e', n', z', b', a', r', s', i', w', c', o', k', g', q']
  (try refine AX_AW ?_); simp only [go_sem]; (repeat' first | apply CJ.mk | intro hc); all_goals try ((repeat' first | apply And.intro | intro hs) <;> (try simp only [go_sem, Bool.and_eq_false_iff] at hs) <;> omega)
  all_goals (cases a; cases b; simp_all)
noncomputable def c_laws_eqDecl : List V → Option (Prop × List (Nat × V) × R) := famQ (fun (x : GDecl × GDecl) => k_laws_eqDecl x.1 x.2)
@[go_sem] theorem c_laws_eqDecl_eq (a_Kind : Int) (a_Name : List UInt8) (a_Arity : Int) (b_Kind : Int) (b_Name : List UInt8) (b_Arity : Int) : c_laws_eqDecl [(true, [.i .i64 a_Kind, .s a_Name, .i .i64 a_Arity]), (true, [.i .i64 b_Kind, .s b_Name, .i .i64 b_Arity])] = some (True, [], .one (false, [.b (decide ((GDecl.mk a_Kind a_Name a_Arity) = (GDecl.mk b_Kind b_Name b_Arity)))])) := famQ_eq _ (by rintro ⟨⟨_, _, _⟩, ⟨_, _, _⟩⟩ ⟨⟨_, _, _⟩, ⟨_, _, _⟩⟩ h; simp at h; simp_all) ((GDecl.mk a_Kind a_Name a_Arity), (GDecl.mk b_Kind b_Name b_Arity))
theorem c_laws_eqDecl_ok : ∀ vs q o r, c_laws_eqDecl vs = some (q, o, r) → q → SpecO Tryz.prog 144 vs o r := famQ_ok _
def ac_laws_eqDeclS : ACode := q' ([b' 4 false]) (.seq (q' ([m' 6 0, n' 7 6, m' 8 1, n' 9 8, o' 10 (.bin .neq (.t 7) (.t 9))]) (.cond (.t 10) (q' ([b' 4 false]) .ret) .skip)) (.seq (q' ([z' 5
  0]) (.block 0 (.loop (.seq (q' ([m' 11 5, m' 12 0, n' 13 12, r' 14 11 13]) (.cond (.t 14) .skip (.exit 0))) (.seq (.block 1 (.seq (.reg true [m' 17 0, m' 18
  5, i' 19 3 17 18, e' 20 3 19, m' 21 1, m' 22 5, i' 23 3 21 22, e' 24 3 23, c' 25 144 [20, 24], o' 26 (.not (.t 25))]) (.cond (.t 26) (q' ([b' 4 false]) .ret)
  .skip))) (g' [m' 15 5, a' 16 15, m' 5 16])))))) (q' ([b' 4 true]) .ret)))
theorem hc_laws_eqDeclS : Tryz.f69.body.bind (comp Tryz.prog Tryz.f69.ntmps) = some ac_laws_eqDeclS := by kernel_rfl
theorem k_laws_eqDeclS (a : List GDecl) (b : List GDecl) : SpecO Tryz.prog 69 [(false, [.sl false [.i .i64 0, .s [], .i .i64 0] (a.map GDecl.cells)]), (false, [.sl false [.i .i64 0, .s [], .i .i64 0] (b.map GDecl.cells)])] [] (.one (false, [.b (decide (a = b))])) := by
  refine spec_of2 false false none Tryz.func69 hc_laws_eqDeclS (rvs := [.t 4]) (hΓ := mkCtx_ok (deep := false) (l := [(144, [], c_laws_eqDecl)]) ⟨c_laws_eqDecl_ok, trivial⟩) (h := ?_)
  intro hb hE
  simp only [go_sem] at hb
  dsimp only [ac_laws_eqDeclS, List.map_cons, List.map_nil, m', f', l', e', n', z', b', a', r', s', i', w', c', o', k', g', q']
  (try refine AX_AW ?_); simp only [go_sem]; (repeat' first | apply CJ.mk | intro hc); all_goals try ((repeat' first | apply And.intro | intro hs) <;> (try simp only [go_sem, Bool.and_eq_false_iff] at hs) <;> omega)
  · symm
    rw [decide_eq_false_iff_not]
    rintro rfl
    simp at hc
  have hl : a.length = b.length := by simpa [Int.ofNat_inj] using hc
  refine aw_loop2 false [] [0, 1] [] [] (fun i : {i : Nat // i ≤ a.length ∧ a.take i = b.take i} => [(5, slV (.i .i64 i.1))]) (fun i => []) (fun i => []) (fun i => a.length - i.1) (⟨0, by simp⟩) _ rfl ?_ ?_
  · simp only [go_sem]
    all_goals first | omega | ((repeat' apply And.intro) <;> first | omega | rfl | skip)
  intro S0 hS0 i
  simp only [go_sem] at hS0
  obtain ⟨i, hi, ht⟩ := i
  (try refine AX_AW ?_); simp only [go_sem, hS0]; (repeat' first | apply CJ.mk | intro hc); all_goals try ((repeat' first | apply And.intro | intro hs) <;> (try simp only [go_sem, Bool.and_eq_false_iff] at hs) <;> omega)
  · exact (decide_eq_false (ne_of_getD default (i := i) (by simpa using hc))).symm
  · (refine lpK_n2 (⟨i + 1, by omega, take_succ_eq ht (by omega) (by omega) (d := default) (by simpa using hc)⟩) _ rfl ?_; simp only [go_sem, hS0]; first | done | ((repeat' apply And.intro) <;> first | omega | (refine w64 ?_ ?_ ?_ <;> omega) | rfl | skip))
  · exact (decide_eq_true (eq_of_take hl ht (by omega))).symm
  all_goals trace_state
noncomputable def c_laws_eqDeclS : List V → Option (Prop × List (Nat × V) × R) := famQ (fun (x : (List GDecl) × (List GDecl)) => k_laws_eqDeclS x.1 x.2)
@[go_sem] theorem c_laws_eqDeclS_eq (a : List GDecl) (b : List GDecl) : c_laws_eqDeclS [(false, [.sl false [.i .i64 0, .s [], .i .i64 0] (a.map GDecl.cells)]), (false, [.sl false [.i .i64 0, .s [], .i .i64 0] (b.map GDecl.cells)])] = some (True, [], .one (false, [.b (decide (a = b))])) := famQ_eq _ (by rintro ⟨_, _⟩ ⟨_, _⟩ h; simp at h; simp_all) (a, b)
theorem c_laws_eqDeclS_ok : ∀ vs q o r, c_laws_eqDeclS vs = some (q, o, r) → q → SpecO Tryz.prog 69 vs o r := famQ_ok _
def ac_laws_eqProgram : ACode := q' ([o' 2 (.box 2 (.t 0)), o' 3 (.box 2 (.t 1)), b' 4 false]) (.seq (q' ([f' 5 0 2, l' 6 5, f' 7 0 3, l' 8 7, c' 9 69 [6, 8], o' 10 (.not (.t 9))]) (.cond (.t
  10) (q' ([b' 4 false]) .ret) .skip)) (.seq (q' ([f' 11 1 2, l' 12 11, f' 13 1 3, l' 14 13, c' 15 70 [12, 14], o' 16 (.not (.t 15))]) (.cond (.t 16) (q' ([b' 4
  false]) .ret) .skip)) (q' ([b' 4 true]) .ret)))
theorem hc_laws_eqProgram : Tryz.f17.body.bind (comp Tryz.prog Tryz.f17.ntmps) = some ac_laws_eqProgram := by kernel_rfl
theorem k_laws_eqProgram (a : GProgram) (b : GProgram) : SpecO Tryz.prog 17 [(true, [.sl false [.i .i64 0, .s [], .i .i64 0] (a.Decls.map GDecl.cells), .sl false [.i .i64 0, .s [], .sl false [.s [], .i .i64 0, .s []] [], .sl false [.i .i64 0, .s [], .sl false [.s [], .i .i64 0, .s []] [], .i .i64 0, .s [], .i .i64 0, .s [], .s [], .i .i64 0, .s []] []] (a.Rules.map (GRule.cells false false))]), (true, [.sl false [.i .i64 0, .s [], .i .i64 0] (b.Decls.map GDecl.cells), .sl false [.i .i64 0, .s [], .sl false [.s [], .i .i64 0, .s []] [], .sl false [.i .i64 0, .s [], .sl false [.s [], .i .i64 0, .s []] [], .i .i64 0, .s [], .i .i64 0, .s [], .s [], .i .i64 0, .s []] []] (b.Rules.map (GRule.cells false false))])] [] (.one (false, [.b (decide (a = b))])) := by
  refine spec_of2 false false none Tryz.func17 hc_laws_eqProgram (rvs := [.t 4]) (hΓ := mkCtx_ok (deep := false) (l := [(69, [], c_laws_eqDeclS), (70, [], c_laws_eqRuleS)]) ⟨c_laws_eqDeclS_ok, c_laws_eqRuleS_ok, trivial⟩) (h := ?_)
  intro hb hE
  simp only [go_sem] at hb
  dsimp only [ac_laws_eqProgram, List.map_cons, List.map_nil, m', f', l', e', n', z', b', a', r', s', i', w', c', o', k', g', q']
  (try refine AX_AW ?_); simp only [go_sem]; (repeat' first | apply CJ.mk | intro hc); all_goals try ((repeat' first | apply And.intro | intro hs) <;> (try simp only [go_sem, Bool.and_eq_false_iff] at hs) <;> omega)
  all_goals (cases a; cases b; simp_all)
noncomputable def c_laws_eqProgram : List V → Option (Prop × List (Nat × V) × R) := famQ (fun (x : GProgram × GProgram) => k_laws_eqProgram x.1 x.2)
@[go_sem] theorem c_laws_eqProgram_eq (a_Decls : List GDecl) (a_Rules : List GRule) (b_Decls : List GDecl) (b_Rules : List GRule) : c_laws_eqProgram [(true, [.sl false [.i .i64 0, .s [], .i .i64 0] (a_Decls.map GDecl.cells), .sl false [.i .i64 0, .s [], .sl false [.s [], .i .i64 0, .s []] [], .sl false [.i .i64 0, .s [], .sl false [.s [], .i .i64 0, .s []] [], .i .i64 0, .s [], .i .i64 0, .s [], .s [], .i .i64 0, .s []] []] (a_Rules.map (GRule.cells false false))]), (true, [.sl false [.i .i64 0, .s [], .i .i64 0] (b_Decls.map GDecl.cells), .sl false [.i .i64 0, .s [], .sl false [.s [], .i .i64 0, .s []] [], .sl false [.i .i64 0, .s [], .sl false [.s [], .i .i64 0, .s []] [], .i .i64 0, .s [], .i .i64 0, .s [], .s [], .i .i64 0, .s []] []] (b_Rules.map (GRule.cells false false))])] = some (True, [], .one (false, [.b (decide ((GProgram.mk a_Decls a_Rules) = (GProgram.mk b_Decls b_Rules)))])) := famQ_eq _ (by rintro ⟨⟨_, _⟩, ⟨_, _⟩⟩ ⟨⟨_, _⟩, ⟨_, _⟩⟩ h; simp at h; simp_all) ((GProgram.mk a_Decls a_Rules), (GProgram.mk b_Decls b_Rules))
theorem c_laws_eqProgram_ok : ∀ vs q o r, c_laws_eqProgram vs = some (q, o, r) → q → SpecO Tryz.prog 17 vs o r := famQ_ok _
end Go.Aw
