/- Programs: sizes, copies, equalities. No condition. -/
import Derived.Test.YtojlgbkikicklaaGreatzcB2
namespace Go.Aw
open Go.Proofs
attribute [local irreducible] aft blk lpK retK AW SpecO
set_option linter.unusedVariables false
set_option linter.unusedSimpArgs false
set_option maxRecDepth 100000
def totAtom (x : GAtom) : Nat := x.Name.length + (x.Args.length + tots totTerm x.Args)
def totLit (x : GLit) : Nat := totAtom x.Atom + totTerm x.A + totTerm x.B
def totRule (x : GRule) : Nat := totAtom x.Head + (x.Body.length + tots totLit x.Body)
def totDecl (x : GDecl) : Nat := x.Name.length
def totProgram (x : GProgram) : Nat := (x.Decls.length + tots totDecl x.Decls) + (x.Rules.length + tots totRule x.Rules)
def ac_laws_szAtom : ACode := .seq (.reg false [⟨some 2, .box 2 (.t 0), none⟩, ⟨some 4, .mov (.k (.v false [.c (.i .i64 0)])), none⟩]) (.seq (.reg false [⟨some 5, .mov (.t 1), none⟩, ⟨some
  6, .fa 0 (.t 2), none⟩, ⟨some 7, .ld false 1 (.t 6), none⟩, ⟨some 8, .lens (.t 7), none⟩, ⟨some 9, .bin .sub (.t 5) (.t 8), none⟩, ⟨some 1, .mov (.t 9),
  none⟩]) (.seq (.seq (.reg false [⟨some 10, .mov (.t 1), none⟩, ⟨some 11, .bin .lss (.t 10) (.k (.v false [.c (.i .i64 0)])), none⟩]) (.cond (.t 11) (.seq
  (.reg false [⟨some 4, .mov (.k (.v false [.c (.i .i64 (-1))])), none⟩]) .ret) .skip)) (.seq (.reg false [⟨some 12, .fa 1 (.t 2), none⟩, ⟨some 13, .ld false 1
  (.t 12), none⟩, ⟨some 14, .mov (.t 1), none⟩, ⟨some 15, .call 269 [.t 13, .t 14], none⟩, ⟨some 1, .mov (.t 15), none⟩]) (.seq (.seq (.reg false [⟨some 16,
  .mov (.t 1), none⟩, ⟨some 17, .bin .lss (.t 16) (.k (.v false [.c (.i .i64 0)])), none⟩]) (.cond (.t 17) (.seq (.reg false [⟨some 4, .mov (.k (.v false [.c
  (.i .i64 (-1))])), none⟩]) .ret) .skip)) (.seq (.reg false [⟨some 18, .mov (.t 1), none⟩, ⟨some 4, .mov (.t 18), none⟩]) .ret)))))
theorem hc_laws_szAtom : Tryz.f190.body.bind (comp Tryz.prog Tryz.f190.ntmps) = some ac_laws_szAtom := by kernel_rfl
theorem k_laws_szAtom (a : GAtom) (left : Int) (hpre : 0 ≤ left ∧ left ≤ 1048576) : SpecO Tryz.prog 190 [(true, [.s a.Name, .sl false [.s [], .i .i64 0, .s []] (a.Args.map GTerm.cells)]), (false, [.i .i64 left])] [] (.one (false, [.i .i64 (szR left (totAtom a : Nat))])) := by
  refine spec_of2 false false none Tryz.func190 hc_laws_szAtom (rvs := [.t 4]) (hΓ := mkCtx_ok (deep := false) (l := [(269, [], c_laws_szTermS)]) ⟨c_laws_szTermS_ok, trivial⟩) (h := ?_)
  intro hb hE
  simp only [go_sem] at hb
  unfold ac_laws_szAtom
  (try refine AX_AW ?_); simp only [go_sem]; (repeat' first | apply CJ.mk | intro hc); all_goals try ((repeat' first | apply And.intro | intro hs) <;> (try simp only [go_sem, Bool.and_eq_false_iff] at hs) <;> omega)
  all_goals ((repeat (simp (disch := omega) only [wsub] at *)) <;> (try simp only [szR, totAtom] at *) <;> (first | omega | (split <;> omega)))
noncomputable def c_laws_szAtom : List V → Option (Prop × List (Nat × V) × R) := famP (fun (x : GAtom × Int) h => k_laws_szAtom x.1 x.2 h)
@[go_sem] theorem c_laws_szAtom_eq (a_Name : List UInt8) (a_Args : List GTerm) (left : Int) : c_laws_szAtom [(true, [.s a_Name, .sl false [.s [], .i .i64 0, .s []] (a_Args.map GTerm.cells)]), (false, [.i .i64 left])] = some (0 ≤ left ∧ left ≤ 1048576, [], .one (false, [.i .i64 (szR left (totAtom (GAtom.mk a_Name a_Args) : Nat))])) := famP_eq _ (by rintro ⟨⟨_, _⟩, _⟩ ⟨⟨_, _⟩, _⟩ h; simp at h; simp_all) ((GAtom.mk a_Name a_Args), left)
theorem c_laws_szAtom_ok : ∀ vs q o r, c_laws_szAtom vs = some (q, o, r) → q → SpecO Tryz.prog 190 vs o r := famP_ok _
def ac_laws_szLit : ACode := .seq (.reg false [⟨some 2, .box 10 (.t 0), none⟩, ⟨some 4, .mov (.k (.v false [.c (.i .i64 0)])), none⟩]) (.seq (.reg false [⟨some 5, .fa 1 (.t 2), none⟩, ⟨some
  6, .ld true 2 (.t 5), none⟩, ⟨some 7, .mov (.t 1), none⟩, ⟨some 8, .call 190 [.t 6, .t 7], none⟩, ⟨some 1, .mov (.t 8), none⟩]) (.seq (.seq (.reg false [⟨some
  9, .mov (.t 1), none⟩, ⟨some 10, .bin .lss (.t 9) (.k (.v false [.c (.i .i64 0)])), none⟩]) (.cond (.t 10) (.seq (.reg false [⟨some 4, .mov (.k (.v false [.c
  (.i .i64 (-1))])), none⟩]) .ret) .skip)) (.seq (.reg false [⟨some 11, .fa 4 (.t 2), none⟩, ⟨some 12, .ld true 3 (.t 11), none⟩, ⟨some 13, .mov (.t 1), none⟩,
  ⟨some 14, .call 311 [.t 12, .t 13], none⟩, ⟨some 1, .mov (.t 14), none⟩]) (.seq (.seq (.reg false [⟨some 15, .mov (.t 1), none⟩, ⟨some 16, .bin .lss (.t 15)
  (.k (.v false [.c (.i .i64 0)])), none⟩]) (.cond (.t 16) (.seq (.reg false [⟨some 4, .mov (.k (.v false [.c (.i .i64 (-1))])), none⟩]) .ret) .skip)) (.seq
  (.reg false [⟨some 17, .fa 7 (.t 2), none⟩, ⟨some 18, .ld true 3 (.t 17), none⟩, ⟨some 19, .mov (.t 1), none⟩, ⟨some 20, .call 311 [.t 18, .t 19], none⟩,
  ⟨some 1, .mov (.t 20), none⟩]) (.seq (.seq (.reg false [⟨some 21, .mov (.t 1), none⟩, ⟨some 22, .bin .lss (.t 21) (.k (.v false [.c (.i .i64 0)])), none⟩])
  (.cond (.t 22) (.seq (.reg false [⟨some 4, .mov (.k (.v false [.c (.i .i64 (-1))])), none⟩]) .ret) .skip)) (.seq (.reg false [⟨some 23, .mov (.t 1), none⟩,
  ⟨some 4, .mov (.t 23), none⟩]) .ret)))))))
theorem hc_laws_szLit : Tryz.f270.body.bind (comp Tryz.prog Tryz.f270.ntmps) = some ac_laws_szLit := by kernel_rfl
theorem k_laws_szLit (a : GLit) (left : Int) (hpre : 0 ≤ left ∧ left ≤ 1048576) : SpecO Tryz.prog 270 [(true, [.i .i64 a.Kind, .s a.Atom.Name, .sl false [.s [], .i .i64 0, .s []] (a.Atom.Args.map GTerm.cells), .i .i64 a.Op, .s a.A.Var, .i .i64 a.A.Val.N, .s a.A.Val.S, .s a.B.Var, .i .i64 a.B.Val.N, .s a.B.Val.S]), (false, [.i .i64 left])] [] (.one (false, [.i .i64 (szR left (totLit a : Nat))])) := by
  refine spec_of2 false false none Tryz.func270 hc_laws_szLit (rvs := [.t 4]) (hΓ := mkCtx_ok (deep := false) (l := [(190, [], c_laws_szAtom), (311, [], c_laws_szTerm)]) ⟨c_laws_szAtom_ok, c_laws_szTerm_ok, trivial⟩) (h := ?_)
  intro hb hE
  simp only [go_sem] at hb
  unfold ac_laws_szLit
  (try refine AX_AW ?_); simp only [go_sem]; (repeat' first | apply CJ.mk | intro hc); all_goals try ((repeat' first | apply And.intro | intro hs) <;> (try simp only [go_sem, Bool.and_eq_false_iff] at hs) <;> omega)
  all_goals ((repeat (simp (disch := omega) only [wsub] at *)) <;> (try simp only [szR, totLit] at *) <;> (first | omega | (split <;> omega)))
noncomputable def c_laws_szLit : List V → Option (Prop × List (Nat × V) × R) := famP (fun (x : GLit × Int) h => k_laws_szLit x.1 x.2 h)
@[go_sem] theorem c_laws_szLit_eq (a_Kind : Int) (a_Atom_Name : List UInt8) (a_Atom_Args : List GTerm) (a_Op : Int) (a_A_Var : List UInt8) (a_A_Val_N : Int) (a_A_Val_S : List UInt8) (a_B_Var : List UInt8) (a_B_Val_N : Int) (a_B_Val_S : List UInt8) (left : Int) : c_laws_szLit [(true, [.i .i64 a_Kind, .s a_Atom_Name, .sl false [.s [], .i .i64 0, .s []] (a_Atom_Args.map GTerm.cells), .i .i64 a_Op, .s a_A_Var, .i .i64 a_A_Val_N, .s a_A_Val_S, .s a_B_Var, .i .i64 a_B_Val_N, .s a_B_Val_S]), (false, [.i .i64 left])] = some (0 ≤ left ∧ left ≤ 1048576, [], .one (false, [.i .i64 (szR left (totLit (GLit.mk a_Kind (GAtom.mk a_Atom_Name a_Atom_Args) a_Op (GTerm.mk a_A_Var (GValue.mk a_A_Val_N a_A_Val_S)) (GTerm.mk a_B_Var (GValue.mk a_B_Val_N a_B_Val_S))) : Nat))])) := famP_eq _ (by rintro ⟨⟨_, ⟨_, _⟩, _, ⟨_, ⟨_, _⟩⟩, ⟨_, ⟨_, _⟩⟩⟩, _⟩ ⟨⟨_, ⟨_, _⟩, _, ⟨_, ⟨_, _⟩⟩, ⟨_, ⟨_, _⟩⟩⟩, _⟩ h; simp at h; simp_all) ((GLit.mk a_Kind (GAtom.mk a_Atom_Name a_Atom_Args) a_Op (GTerm.mk a_A_Var (GValue.mk a_A_Val_N a_A_Val_S)) (GTerm.mk a_B_Var (GValue.mk a_B_Val_N a_B_Val_S))), left)
theorem c_laws_szLit_ok : ∀ vs q o r, c_laws_szLit vs = some (q, o, r) → q → SpecO Tryz.prog 270 vs o r := famP_ok _
def ac_laws_szLitS : ACode := .seq (.reg false [⟨some 4, .mov (.k (.v false [.c (.i .i64 0)])), none⟩]) (.seq (.reg false [⟨some 6, .mov (.t 1), none⟩, ⟨some 7, .mov (.t 0), none⟩, ⟨some 8,
  .len (.t 7), none⟩, ⟨some 9, .bin .sub (.t 6) (.t 8), none⟩, ⟨some 1, .mov (.t 9), none⟩]) (.seq (.seq (.reg false [⟨some 10, .mov (.t 1), none⟩, ⟨some 11,
  .bin .lss (.t 10) (.k (.v false [.c (.i .i64 0)])), none⟩]) (.cond (.t 11) (.seq (.reg false [⟨some 4, .mov (.k (.v false [.c (.i .i64 (-1))])), none⟩]) .ret)
  .skip)) (.seq (.seq (.reg false [⟨some 5, .mov (.k (.v false [.c (.i .i64 0)])), none⟩]) (.block 0 (.loop (.seq (.seq (.reg false [⟨some 12, .mov (.t 5),
  none⟩, ⟨some 13, .mov (.t 0), none⟩, ⟨some 14, .len (.t 13), none⟩, ⟨some 15, .bin .lss (.t 12) (.t 14), none⟩]) (.cond (.t 15) .skip (.exit 0))) (.seq
  (.block 1 (.seq (.reg false [⟨some 18, .mov (.t 0), none⟩, ⟨some 19, .mov (.t 5), none⟩, ⟨some 20, .ia 10 (.t 18) (.t 19), none⟩, ⟨some 21, .ld true 10 (.t
  20), none⟩, ⟨some 22, .mov (.t 1), none⟩, ⟨some 23, .call 270 [.t 21, .t 22], none⟩, ⟨some 1, .mov (.t 23), none⟩]) (.seq (.reg false [⟨some 24, .mov (.t 1),
  none⟩, ⟨some 25, .bin .lss (.t 24) (.k (.v false [.c (.i .i64 0)])), none⟩]) (.cond (.t 25) (.seq (.reg false [⟨some 4, .mov (.k (.v false [.c (.i .i64
  (-1))])), none⟩]) .ret) .skip)))) (.reg false [⟨some 16, .mov (.t 5), none⟩, ⟨some 17, .bin .add (.t 16) (.k (.v false [.c (.i .i64 1)])), none⟩, ⟨some 5,
  .mov (.t 17), none⟩])))))) (.seq (.reg false [⟨some 26, .mov (.t 1), none⟩, ⟨some 4, .mov (.t 26), none⟩]) .ret))))
theorem hc_laws_szLitS : Tryz.f191.body.bind (comp Tryz.prog Tryz.f191.ntmps) = some ac_laws_szLitS := by kernel_rfl
theorem k_laws_szLitS (a : List GLit) (left : Int) (hpre : 0 ≤ left ∧ left ≤ 1048576) : SpecO Tryz.prog 191 [(false, [.sl false [.i .i64 0, .s [], .sl false [.s [], .i .i64 0, .s []] [], .i .i64 0, .s [], .i .i64 0, .s [], .s [], .i .i64 0, .s []] (a.map (GLit.cells false false))]), (false, [.i .i64 left])] [] (.one (false, [.i .i64 (szR left ((a.length + tots totLit a) : Nat))])) := by
  refine spec_of2 false false none Tryz.func191 hc_laws_szLitS (rvs := [.t 4]) (hΓ := mkCtx_ok (deep := false) (l := [(270, [], c_laws_szLit)]) ⟨c_laws_szLit_ok, trivial⟩) (h := ?_)
  intro hb hE
  simp only [go_sem] at hb
  unfold ac_laws_szLitS
  (try refine AX_AW ?_); simp only [go_sem]; (repeat' first | apply CJ.mk | intro hc); all_goals try ((repeat' first | apply And.intro | intro hs) <;> (try simp only [go_sem, Bool.and_eq_false_iff] at hs) <;> omega)
  · all_goals ((repeat (simp (disch := omega) only [wsub] at *)) <;> (try simp only [szR, szR] at *) <;> (first | omega | (split <;> omega)))
  have hw := wsub (l := left) (n := a.length) (by omega) (by omega) (by omega) (by omega)
  rw [hw] at hc
  refine aw_loop2 false [] [0] [] [] (fun i : {i : Nat // i ≤ a.length ∧ (a.length : Int) + (tots totLit (a.take i) : Nat) ≤ left} => [(5, slV (.i .i64 i.1)), (1, slV (.i .i64 (left - a.length - (tots totLit (a.take i.1) : Nat))))]) (fun i => []) (fun i => []) (fun i => a.length - i.1) (⟨0, by simp only [List.take_zero, tots_nil]; omega⟩) _ rfl ?_ ?_
  · simp only [go_sem, hw]
    all_goals first | omega | ((repeat' apply And.intro) <;> first | omega | rfl | skip)
  intro S0 hS0 i
  simp only [go_sem, hw] at hS0
  obtain ⟨i, hi, ht⟩ := i
  (try refine AX_AW ?_); simp only [go_sem, hw, hS0]; (repeat' first | apply CJ.mk | intro hc); all_goals try ((repeat' first | apply And.intro | intro hs) <;> (try simp only [go_sem, Bool.and_eq_false_iff] at hs) <;> omega)
  · have h1 := tots_take_succ totLit (default : GLit) (show i < a.length by omega)
    have h2 := tots_take_le totLit a (i + 1)
    all_goals ((repeat (simp (disch := omega) only [wsub] at *)) <;> (try simp only [szR, szR] at *) <;> (first | omega | (split <;> omega)))
  · have h1 := tots_take_succ totLit (default : GLit) (show i < a.length by omega)
    (refine lpK_n2 (⟨i + 1, by omega, by unfold szR at hc; split at hc <;> omega⟩) _ rfl ?_; simp only [go_sem, hw, hS0]; first | done | ((repeat' apply And.intro) <;> first | omega | (refine w64 ?_ ?_ ?_ <;> omega) | rfl | skip))
    rw [h1]
    unfold szR at hc ⊢
    split at hc <;> omega
  · have h1 := tots_all totLit (show ¬ i < a.length by omega)
    all_goals ((repeat (simp (disch := omega) only [wsub] at *)) <;> (try simp only [szR, szR] at *) <;> (first | omega | (split <;> omega)))
  all_goals all_goals ((repeat (simp (disch := omega) only [wsub] at *)) <;> (try simp only [szR, szR] at *) <;> (first | omega | (split <;> omega)))
noncomputable def c_laws_szLitS : List V → Option (Prop × List (Nat × V) × R) := famP (fun (x : (List GLit) × Int) h => k_laws_szLitS x.1 x.2 h)
@[go_sem] theorem c_laws_szLitS_eq (a : List GLit) (left : Int) : c_laws_szLitS [(false, [.sl false [.i .i64 0, .s [], .sl false [.s [], .i .i64 0, .s []] [], .i .i64 0, .s [], .i .i64 0, .s [], .s [], .i .i64 0, .s []] (a.map (GLit.cells false false))]), (false, [.i .i64 left])] = some (0 ≤ left ∧ left ≤ 1048576, [], .one (false, [.i .i64 (szR left ((a.length + tots totLit a) : Nat))])) := famP_eq _ (by rintro ⟨_, _⟩ ⟨_, _⟩ h; simp at h; simp_all) (a, left)
theorem c_laws_szLitS_ok : ∀ vs q o r, c_laws_szLitS vs = some (q, o, r) → q → SpecO Tryz.prog 191 vs o r := famP_ok _
def ac_laws_szRule : ACode := .seq (.reg false [⟨some 2, .box 4 (.t 0), none⟩, ⟨some 4, .mov (.k (.v false [.c (.i .i64 0)])), none⟩]) (.seq (.reg false [⟨some 5, .fa 1 (.t 2), none⟩, ⟨some
  6, .ld true 2 (.t 5), none⟩, ⟨some 7, .mov (.t 1), none⟩, ⟨some 8, .call 190 [.t 6, .t 7], none⟩, ⟨some 1, .mov (.t 8), none⟩]) (.seq (.seq (.reg false [⟨some
  9, .mov (.t 1), none⟩, ⟨some 10, .bin .lss (.t 9) (.k (.v false [.c (.i .i64 0)])), none⟩]) (.cond (.t 10) (.seq (.reg false [⟨some 4, .mov (.k (.v false [.c
  (.i .i64 (-1))])), none⟩]) .ret) .skip)) (.seq (.reg false [⟨some 11, .fa 3 (.t 2), none⟩, ⟨some 12, .ld false 1 (.t 11), none⟩, ⟨some 13, .mov (.t 1), none⟩,
  ⟨some 14, .call 191 [.t 12, .t 13], none⟩, ⟨some 1, .mov (.t 14), none⟩]) (.seq (.seq (.reg false [⟨some 15, .mov (.t 1), none⟩, ⟨some 16, .bin .lss (.t 15)
  (.k (.v false [.c (.i .i64 0)])), none⟩]) (.cond (.t 16) (.seq (.reg false [⟨some 4, .mov (.k (.v false [.c (.i .i64 (-1))])), none⟩]) .ret) .skip)) (.seq
  (.reg false [⟨some 17, .mov (.t 1), none⟩, ⟨some 4, .mov (.t 17), none⟩]) .ret)))))
theorem hc_laws_szRule : Tryz.f121.body.bind (comp Tryz.prog Tryz.f121.ntmps) = some ac_laws_szRule := by kernel_rfl
theorem k_laws_szRule (a : GRule) (left : Int) (hpre : 0 ≤ left ∧ left ≤ 1048576) : SpecO Tryz.prog 121 [(true, [.i .i64 a.Kind, .s a.Head.Name, .sl false [.s [], .i .i64 0, .s []] (a.Head.Args.map GTerm.cells), .sl false [.i .i64 0, .s [], .sl false [.s [], .i .i64 0, .s []] [], .i .i64 0, .s [], .i .i64 0, .s [], .s [], .i .i64 0, .s []] (a.Body.map (GLit.cells false false))]), (false, [.i .i64 left])] [] (.one (false, [.i .i64 (szR left (totRule a : Nat))])) := by
  refine spec_of2 false false none Tryz.func121 hc_laws_szRule (rvs := [.t 4]) (hΓ := mkCtx_ok (deep := false) (l := [(190, [], c_laws_szAtom), (191, [], c_laws_szLitS)]) ⟨c_laws_szAtom_ok, c_laws_szLitS_ok, trivial⟩) (h := ?_)
  intro hb hE
  simp only [go_sem] at hb
  unfold ac_laws_szRule
  (try refine AX_AW ?_); simp only [go_sem]; (repeat' first | apply CJ.mk | intro hc); all_goals try ((repeat' first | apply And.intro | intro hs) <;> (try simp only [go_sem, Bool.and_eq_false_iff] at hs) <;> omega)
  all_goals ((repeat (simp (disch := omega) only [wsub] at *)) <;> (try simp only [szR, totRule] at *) <;> (first | omega | (split <;> omega)))
noncomputable def c_laws_szRule : List V → Option (Prop × List (Nat × V) × R) := famP (fun (x : GRule × Int) h => k_laws_szRule x.1 x.2 h)
@[go_sem] theorem c_laws_szRule_eq (a_Kind : Int) (a_Head_Name : List UInt8) (a_Head_Args : List GTerm) (a_Body : List GLit) (left : Int) : c_laws_szRule [(true, [.i .i64 a_Kind, .s a_Head_Name, .sl false [.s [], .i .i64 0, .s []] (a_Head_Args.map GTerm.cells), .sl false [.i .i64 0, .s [], .sl false [.s [], .i .i64 0, .s []] [], .i .i64 0, .s [], .i .i64 0, .s [], .s [], .i .i64 0, .s []] (a_Body.map (GLit.cells false false))]), (false, [.i .i64 left])] = some (0 ≤ left ∧ left ≤ 1048576, [], .one (false, [.i .i64 (szR left (totRule (GRule.mk a_Kind (GAtom.mk a_Head_Name a_Head_Args) a_Body) : Nat))])) := famP_eq _ (by rintro ⟨⟨_, ⟨_, _⟩, _⟩, _⟩ ⟨⟨_, ⟨_, _⟩, _⟩, _⟩ h; simp at h; simp_all) ((GRule.mk a_Kind (GAtom.mk a_Head_Name a_Head_Args) a_Body), left)
theorem c_laws_szRule_ok : ∀ vs q o r, c_laws_szRule vs = some (q, o, r) → q → SpecO Tryz.prog 121 vs o r := famP_ok _
def ac_laws_szRuleS : ACode := .seq (.reg false [⟨some 4, .mov (.k (.v false [.c (.i .i64 0)])), none⟩]) (.seq (.reg false [⟨some 6, .mov (.t 1), none⟩, ⟨some 7, .mov (.t 0), none⟩, ⟨some 8,
  .len (.t 7), none⟩, ⟨some 9, .bin .sub (.t 6) (.t 8), none⟩, ⟨some 1, .mov (.t 9), none⟩]) (.seq (.seq (.reg false [⟨some 10, .mov (.t 1), none⟩, ⟨some 11,
  .bin .lss (.t 10) (.k (.v false [.c (.i .i64 0)])), none⟩]) (.cond (.t 11) (.seq (.reg false [⟨some 4, .mov (.k (.v false [.c (.i .i64 (-1))])), none⟩]) .ret)
  .skip)) (.seq (.seq (.reg false [⟨some 5, .mov (.k (.v false [.c (.i .i64 0)])), none⟩]) (.block 0 (.loop (.seq (.seq (.reg false [⟨some 12, .mov (.t 5),
  none⟩, ⟨some 13, .mov (.t 0), none⟩, ⟨some 14, .len (.t 13), none⟩, ⟨some 15, .bin .lss (.t 12) (.t 14), none⟩]) (.cond (.t 15) .skip (.exit 0))) (.seq
  (.block 1 (.seq (.reg false [⟨some 18, .mov (.t 0), none⟩, ⟨some 19, .mov (.t 5), none⟩, ⟨some 20, .ia 4 (.t 18) (.t 19), none⟩, ⟨some 21, .ld true 4 (.t 20),
  none⟩, ⟨some 22, .mov (.t 1), none⟩, ⟨some 23, .call 121 [.t 21, .t 22], none⟩, ⟨some 1, .mov (.t 23), none⟩]) (.seq (.reg false [⟨some 24, .mov (.t 1),
  none⟩, ⟨some 25, .bin .lss (.t 24) (.k (.v false [.c (.i .i64 0)])), none⟩]) (.cond (.t 25) (.seq (.reg false [⟨some 4, .mov (.k (.v false [.c (.i .i64
  (-1))])), none⟩]) .ret) .skip)))) (.reg false [⟨some 16, .mov (.t 5), none⟩, ⟨some 17, .bin .add (.t 16) (.k (.v false [.c (.i .i64 1)])), none⟩, ⟨some 5,
  .mov (.t 17), none⟩])))))) (.seq (.reg false [⟨some 26, .mov (.t 1), none⟩, ⟨some 4, .mov (.t 26), none⟩]) .ret))))
theorem hc_laws_szRuleS : Tryz.f57.body.bind (comp Tryz.prog Tryz.f57.ntmps) = some ac_laws_szRuleS := by kernel_rfl
theorem k_laws_szRuleS (a : List GRule) (left : Int) (hpre : 0 ≤ left ∧ left ≤ 1048576) : SpecO Tryz.prog 57 [(false, [.sl false [.i .i64 0, .s [], .sl false [.s [], .i .i64 0, .s []] [], .sl false [.i .i64 0, .s [], .sl false [.s [], .i .i64 0, .s []] [], .i .i64 0, .s [], .i .i64 0, .s [], .s [], .i .i64 0, .s []] []] (a.map (GRule.cells false false))]), (false, [.i .i64 left])] [] (.one (false, [.i .i64 (szR left ((a.length + tots totRule a) : Nat))])) := by
  refine spec_of2 false false none Tryz.func57 hc_laws_szRuleS (rvs := [.t 4]) (hΓ := mkCtx_ok (deep := false) (l := [(121, [], c_laws_szRule)]) ⟨c_laws_szRule_ok, trivial⟩) (h := ?_)
  intro hb hE
  simp only [go_sem] at hb
  unfold ac_laws_szRuleS
  (try refine AX_AW ?_); simp only [go_sem]; (repeat' first | apply CJ.mk | intro hc); all_goals try ((repeat' first | apply And.intro | intro hs) <;> (try simp only [go_sem, Bool.and_eq_false_iff] at hs) <;> omega)
  · all_goals ((repeat (simp (disch := omega) only [wsub] at *)) <;> (try simp only [szR, szR] at *) <;> (first | omega | (split <;> omega)))
  have hw := wsub (l := left) (n := a.length) (by omega) (by omega) (by omega) (by omega)
  rw [hw] at hc
  refine aw_loop2 false [] [0] [] [] (fun i : {i : Nat // i ≤ a.length ∧ (a.length : Int) + (tots totRule (a.take i) : Nat) ≤ left} => [(5, slV (.i .i64 i.1)), (1, slV (.i .i64 (left - a.length - (tots totRule (a.take i.1) : Nat))))]) (fun i => []) (fun i => []) (fun i => a.length - i.1) (⟨0, by simp only [List.take_zero, tots_nil]; omega⟩) _ rfl ?_ ?_
  · simp only [go_sem, hw]
    all_goals first | omega | ((repeat' apply And.intro) <;> first | omega | rfl | skip)
  intro S0 hS0 i
  simp only [go_sem, hw] at hS0
  obtain ⟨i, hi, ht⟩ := i
  (try refine AX_AW ?_); simp only [go_sem, hw, hS0]; (repeat' first | apply CJ.mk | intro hc); all_goals try ((repeat' first | apply And.intro | intro hs) <;> (try simp only [go_sem, Bool.and_eq_false_iff] at hs) <;> omega)
  · have h1 := tots_take_succ totRule (default : GRule) (show i < a.length by omega)
    have h2 := tots_take_le totRule a (i + 1)
    all_goals ((repeat (simp (disch := omega) only [wsub] at *)) <;> (try simp only [szR, szR] at *) <;> (first | omega | (split <;> omega)))
  · have h1 := tots_take_succ totRule (default : GRule) (show i < a.length by omega)
    (refine lpK_n2 (⟨i + 1, by omega, by unfold szR at hc; split at hc <;> omega⟩) _ rfl ?_; simp only [go_sem, hw, hS0]; first | done | ((repeat' apply And.intro) <;> first | omega | (refine w64 ?_ ?_ ?_ <;> omega) | rfl | skip))
    rw [h1]
    unfold szR at hc ⊢
    split at hc <;> omega
  · have h1 := tots_all totRule (show ¬ i < a.length by omega)
    all_goals ((repeat (simp (disch := omega) only [wsub] at *)) <;> (try simp only [szR, szR] at *) <;> (first | omega | (split <;> omega)))
  all_goals all_goals ((repeat (simp (disch := omega) only [wsub] at *)) <;> (try simp only [szR, szR] at *) <;> (first | omega | (split <;> omega)))
noncomputable def c_laws_szRuleS : List V → Option (Prop × List (Nat × V) × R) := famP (fun (x : (List GRule) × Int) h => k_laws_szRuleS x.1 x.2 h)
@[go_sem] theorem c_laws_szRuleS_eq (a : List GRule) (left : Int) : c_laws_szRuleS [(false, [.sl false [.i .i64 0, .s [], .sl false [.s [], .i .i64 0, .s []] [], .sl false [.i .i64 0, .s [], .sl false [.s [], .i .i64 0, .s []] [], .i .i64 0, .s [], .i .i64 0, .s [], .s [], .i .i64 0, .s []] []] (a.map (GRule.cells false false))]), (false, [.i .i64 left])] = some (0 ≤ left ∧ left ≤ 1048576, [], .one (false, [.i .i64 (szR left ((a.length + tots totRule a) : Nat))])) := famP_eq _ (by rintro ⟨_, _⟩ ⟨_, _⟩ h; simp at h; simp_all) (a, left)
theorem c_laws_szRuleS_ok : ∀ vs q o r, c_laws_szRuleS vs = some (q, o, r) → q → SpecO Tryz.prog 57 vs o r := famP_ok _
def ac_laws_szDecl : ACode := .seq (.reg false [⟨some 2, .box 3 (.t 0), none⟩, ⟨some 4, .mov (.k (.v false [.c (.i .i64 0)])), none⟩]) (.seq (.reg false [⟨some 5, .mov (.t 1), none⟩, ⟨some
  6, .fa 1 (.t 2), none⟩, ⟨some 7, .ld false 1 (.t 6), none⟩, ⟨some 8, .lens (.t 7), none⟩, ⟨some 9, .bin .sub (.t 5) (.t 8), none⟩, ⟨some 1, .mov (.t 9),
  none⟩]) (.seq (.seq (.reg false [⟨some 10, .mov (.t 1), none⟩, ⟨some 11, .bin .lss (.t 10) (.k (.v false [.c (.i .i64 0)])), none⟩]) (.cond (.t 11) (.seq
  (.reg false [⟨some 4, .mov (.k (.v false [.c (.i .i64 (-1))])), none⟩]) .ret) .skip)) (.seq (.reg false [⟨some 12, .mov (.t 1), none⟩, ⟨some 4, .mov (.t 12),
  none⟩]) .ret)))
theorem hc_laws_szDecl : Tryz.f120.body.bind (comp Tryz.prog Tryz.f120.ntmps) = some ac_laws_szDecl := by kernel_rfl
theorem k_laws_szDecl (a : GDecl) (left : Int) (hpre : 0 ≤ left ∧ left ≤ 1048576) : SpecO Tryz.prog 120 [(true, [.i .i64 a.Kind, .s a.Name, .i .i64 a.Arity]), (false, [.i .i64 left])] [] (.one (false, [.i .i64 (szR left (totDecl a : Nat))])) := by
  refine spec_of2 false false none Tryz.func120 hc_laws_szDecl (rvs := [.t 4]) (hΓ := mkCtx_ok (deep := false) (l := []) trivial) (h := ?_)
  intro hb hE
  simp only [go_sem] at hb
  unfold ac_laws_szDecl
  (try refine AX_AW ?_); simp only [go_sem]; (repeat' first | apply CJ.mk | intro hc); all_goals try ((repeat' first | apply And.intro | intro hs) <;> (try simp only [go_sem, Bool.and_eq_false_iff] at hs) <;> omega)
  all_goals ((repeat (simp (disch := omega) only [wsub] at *)) <;> (try simp only [szR, totDecl] at *) <;> (first | omega | (split <;> omega)))
noncomputable def c_laws_szDecl : List V → Option (Prop × List (Nat × V) × R) := famP (fun (x : GDecl × Int) h => k_laws_szDecl x.1 x.2 h)
@[go_sem] theorem c_laws_szDecl_eq (a_Kind : Int) (a_Name : List UInt8) (a_Arity : Int) (left : Int) : c_laws_szDecl [(true, [.i .i64 a_Kind, .s a_Name, .i .i64 a_Arity]), (false, [.i .i64 left])] = some (0 ≤ left ∧ left ≤ 1048576, [], .one (false, [.i .i64 (szR left (totDecl (GDecl.mk a_Kind a_Name a_Arity) : Nat))])) := famP_eq _ (by rintro ⟨⟨_, _, _⟩, _⟩ ⟨⟨_, _, _⟩, _⟩ h; simp at h; simp_all) ((GDecl.mk a_Kind a_Name a_Arity), left)
theorem c_laws_szDecl_ok : ∀ vs q o r, c_laws_szDecl vs = some (q, o, r) → q → SpecO Tryz.prog 120 vs o r := famP_ok _
def ac_laws_szDeclS : ACode := .seq (.reg false [⟨some 4, .mov (.k (.v false [.c (.i .i64 0)])), none⟩]) (.seq (.reg false [⟨some 6, .mov (.t 1), none⟩, ⟨some 7, .mov (.t 0), none⟩, ⟨some 8,
  .len (.t 7), none⟩, ⟨some 9, .bin .sub (.t 6) (.t 8), none⟩, ⟨some 1, .mov (.t 9), none⟩]) (.seq (.seq (.reg false [⟨some 10, .mov (.t 1), none⟩, ⟨some 11,
  .bin .lss (.t 10) (.k (.v false [.c (.i .i64 0)])), none⟩]) (.cond (.t 11) (.seq (.reg false [⟨some 4, .mov (.k (.v false [.c (.i .i64 (-1))])), none⟩]) .ret)
  .skip)) (.seq (.seq (.reg false [⟨some 5, .mov (.k (.v false [.c (.i .i64 0)])), none⟩]) (.block 0 (.loop (.seq (.seq (.reg false [⟨some 12, .mov (.t 5),
  none⟩, ⟨some 13, .mov (.t 0), none⟩, ⟨some 14, .len (.t 13), none⟩, ⟨some 15, .bin .lss (.t 12) (.t 14), none⟩]) (.cond (.t 15) .skip (.exit 0))) (.seq
  (.block 1 (.seq (.reg false [⟨some 18, .mov (.t 0), none⟩, ⟨some 19, .mov (.t 5), none⟩, ⟨some 20, .ia 3 (.t 18) (.t 19), none⟩, ⟨some 21, .ld true 3 (.t 20),
  none⟩, ⟨some 22, .mov (.t 1), none⟩, ⟨some 23, .call 120 [.t 21, .t 22], none⟩, ⟨some 1, .mov (.t 23), none⟩]) (.seq (.reg false [⟨some 24, .mov (.t 1),
  none⟩, ⟨some 25, .bin .lss (.t 24) (.k (.v false [.c (.i .i64 0)])), none⟩]) (.cond (.t 25) (.seq (.reg false [⟨some 4, .mov (.k (.v false [.c (.i .i64
  (-1))])), none⟩]) .ret) .skip)))) (.reg false [⟨some 16, .mov (.t 5), none⟩, ⟨some 17, .bin .add (.t 16) (.k (.v false [.c (.i .i64 1)])), none⟩, ⟨some 5,
  .mov (.t 17), none⟩])))))) (.seq (.reg false [⟨some 26, .mov (.t 1), none⟩, ⟨some 4, .mov (.t 26), none⟩]) .ret))))
theorem hc_laws_szDeclS : Tryz.f56.body.bind (comp Tryz.prog Tryz.f56.ntmps) = some ac_laws_szDeclS := by kernel_rfl
theorem k_laws_szDeclS (a : List GDecl) (left : Int) (hpre : 0 ≤ left ∧ left ≤ 1048576) : SpecO Tryz.prog 56 [(false, [.sl false [.i .i64 0, .s [], .i .i64 0] (a.map GDecl.cells)]), (false, [.i .i64 left])] [] (.one (false, [.i .i64 (szR left ((a.length + tots totDecl a) : Nat))])) := by
  refine spec_of2 false false none Tryz.func56 hc_laws_szDeclS (rvs := [.t 4]) (hΓ := mkCtx_ok (deep := false) (l := [(120, [], c_laws_szDecl)]) ⟨c_laws_szDecl_ok, trivial⟩) (h := ?_)
  intro hb hE
  simp only [go_sem] at hb
  unfold ac_laws_szDeclS
  (try refine AX_AW ?_); simp only [go_sem]; (repeat' first | apply CJ.mk | intro hc); all_goals try ((repeat' first | apply And.intro | intro hs) <;> (try simp only [go_sem, Bool.and_eq_false_iff] at hs) <;> omega)
  · all_goals ((repeat (simp (disch := omega) only [wsub] at *)) <;> (try simp only [szR, szR] at *) <;> (first | omega | (split <;> omega)))
  have hw := wsub (l := left) (n := a.length) (by omega) (by omega) (by omega) (by omega)
  rw [hw] at hc
  refine aw_loop2 false [] [0] [] [] (fun i : {i : Nat // i ≤ a.length ∧ (a.length : Int) + (tots totDecl (a.take i) : Nat) ≤ left} => [(5, slV (.i .i64 i.1)), (1, slV (.i .i64 (left - a.length - (tots totDecl (a.take i.1) : Nat))))]) (fun i => []) (fun i => []) (fun i => a.length - i.1) (⟨0, by simp only [List.take_zero, tots_nil]; omega⟩) _ rfl ?_ ?_
  · simp only [go_sem, hw]
    all_goals first | omega | ((repeat' apply And.intro) <;> first | omega | rfl | skip)
  intro S0 hS0 i
  simp only [go_sem, hw] at hS0
  obtain ⟨i, hi, ht⟩ := i
  (try refine AX_AW ?_); simp only [go_sem, hw, hS0]; (repeat' first | apply CJ.mk | intro hc); all_goals try ((repeat' first | apply And.intro | intro hs) <;> (try simp only [go_sem, Bool.and_eq_false_iff] at hs) <;> omega)
  · have h1 := tots_take_succ totDecl (default : GDecl) (show i < a.length by omega)
    have h2 := tots_take_le totDecl a (i + 1)
    all_goals ((repeat (simp (disch := omega) only [wsub] at *)) <;> (try simp only [szR, szR] at *) <;> (first | omega | (split <;> omega)))
  · have h1 := tots_take_succ totDecl (default : GDecl) (show i < a.length by omega)
    (refine lpK_n2 (⟨i + 1, by omega, by unfold szR at hc; split at hc <;> omega⟩) _ rfl ?_; simp only [go_sem, hw, hS0]; first | done | ((repeat' apply And.intro) <;> first | omega | (refine w64 ?_ ?_ ?_ <;> omega) | rfl | skip))
    rw [h1]
    unfold szR at hc ⊢
    split at hc <;> omega
  · have h1 := tots_all totDecl (show ¬ i < a.length by omega)
    all_goals ((repeat (simp (disch := omega) only [wsub] at *)) <;> (try simp only [szR, szR] at *) <;> (first | omega | (split <;> omega)))
  all_goals all_goals ((repeat (simp (disch := omega) only [wsub] at *)) <;> (try simp only [szR, szR] at *) <;> (first | omega | (split <;> omega)))
noncomputable def c_laws_szDeclS : List V → Option (Prop × List (Nat × V) × R) := famP (fun (x : (List GDecl) × Int) h => k_laws_szDeclS x.1 x.2 h)
@[go_sem] theorem c_laws_szDeclS_eq (a : List GDecl) (left : Int) : c_laws_szDeclS [(false, [.sl false [.i .i64 0, .s [], .i .i64 0] (a.map GDecl.cells)]), (false, [.i .i64 left])] = some (0 ≤ left ∧ left ≤ 1048576, [], .one (false, [.i .i64 (szR left ((a.length + tots totDecl a) : Nat))])) := famP_eq _ (by rintro ⟨_, _⟩ ⟨_, _⟩ h; simp at h; simp_all) (a, left)
theorem c_laws_szDeclS_ok : ∀ vs q o r, c_laws_szDeclS vs = some (q, o, r) → q → SpecO Tryz.prog 56 vs o r := famP_ok _
def ac_laws_szProgram : ACode := .seq (.reg false [⟨some 2, .box 2 (.t 0), none⟩, ⟨some 4, .mov (.k (.v false [.c (.i .i64 0)])), none⟩]) (.seq (.reg false [⟨some 5, .fa 0 (.t 2), none⟩, ⟨some
  6, .ld false 1 (.t 5), none⟩, ⟨some 7, .mov (.t 1), none⟩, ⟨some 8, .call 56 [.t 6, .t 7], none⟩, ⟨some 1, .mov (.t 8), none⟩]) (.seq (.seq (.reg false [⟨some
  9, .mov (.t 1), none⟩, ⟨some 10, .bin .lss (.t 9) (.k (.v false [.c (.i .i64 0)])), none⟩]) (.cond (.t 10) (.seq (.reg false [⟨some 4, .mov (.k (.v false [.c
  (.i .i64 (-1))])), none⟩]) .ret) .skip)) (.seq (.reg false [⟨some 11, .fa 1 (.t 2), none⟩, ⟨some 12, .ld false 1 (.t 11), none⟩, ⟨some 13, .mov (.t 1), none⟩,
  ⟨some 14, .call 57 [.t 12, .t 13], none⟩, ⟨some 1, .mov (.t 14), none⟩]) (.seq (.seq (.reg false [⟨some 15, .mov (.t 1), none⟩, ⟨some 16, .bin .lss (.t 15)
  (.k (.v false [.c (.i .i64 0)])), none⟩]) (.cond (.t 16) (.seq (.reg false [⟨some 4, .mov (.k (.v false [.c (.i .i64 (-1))])), none⟩]) .ret) .skip)) (.seq
  (.reg false [⟨some 17, .mov (.t 1), none⟩, ⟨some 4, .mov (.t 17), none⟩]) .ret)))))
theorem hc_laws_szProgram : Tryz.f13.body.bind (comp Tryz.prog Tryz.f13.ntmps) = some ac_laws_szProgram := by kernel_rfl
theorem k_laws_szProgram (a : GProgram) (left : Int) (hpre : 0 ≤ left ∧ left ≤ 1048576) : SpecO Tryz.prog 13 [(true, [.sl false [.i .i64 0, .s [], .i .i64 0] (a.Decls.map GDecl.cells), .sl false [.i .i64 0, .s [], .sl false [.s [], .i .i64 0, .s []] [], .sl false [.i .i64 0, .s [], .sl false [.s [], .i .i64 0, .s []] [], .i .i64 0, .s [], .i .i64 0, .s [], .s [], .i .i64 0, .s []] []] (a.Rules.map (GRule.cells false false))]), (false, [.i .i64 left])] [] (.one (false, [.i .i64 (szR left (totProgram a : Nat))])) := by
  refine spec_of2 false false none Tryz.func13 hc_laws_szProgram (rvs := [.t 4]) (hΓ := mkCtx_ok (deep := false) (l := [(56, [], c_laws_szDeclS), (57, [], c_laws_szRuleS)]) ⟨c_laws_szDeclS_ok, c_laws_szRuleS_ok, trivial⟩) (h := ?_)
  intro hb hE
  simp only [go_sem] at hb
  unfold ac_laws_szProgram
  (try refine AX_AW ?_); simp only [go_sem]; (repeat' first | apply CJ.mk | intro hc); all_goals try ((repeat' first | apply And.intro | intro hs) <;> (try simp only [go_sem, Bool.and_eq_false_iff] at hs) <;> omega)
  all_goals ((repeat (simp (disch := omega) only [wsub] at *)) <;> (try simp only [szR, totProgram] at *) <;> (first | omega | (split <;> omega)))
noncomputable def c_laws_szProgram : List V → Option (Prop × List (Nat × V) × R) := famP (fun (x : GProgram × Int) h => k_laws_szProgram x.1 x.2 h)
@[go_sem] theorem c_laws_szProgram_eq (a_Decls : List GDecl) (a_Rules : List GRule) (left : Int) : c_laws_szProgram [(true, [.sl false [.i .i64 0, .s [], .i .i64 0] (a_Decls.map GDecl.cells), .sl false [.i .i64 0, .s [], .sl false [.s [], .i .i64 0, .s []] [], .sl false [.i .i64 0, .s [], .sl false [.s [], .i .i64 0, .s []] [], .i .i64 0, .s [], .i .i64 0, .s [], .s [], .i .i64 0, .s []] []] (a_Rules.map (GRule.cells false false))]), (false, [.i .i64 left])] = some (0 ≤ left ∧ left ≤ 1048576, [], .one (false, [.i .i64 (szR left (totProgram (GProgram.mk a_Decls a_Rules) : Nat))])) := famP_eq _ (by rintro ⟨⟨_, _⟩, _⟩ ⟨⟨_, _⟩, _⟩ h; simp at h; simp_all) ((GProgram.mk a_Decls a_Rules), left)
theorem c_laws_szProgram_ok : ∀ vs q o r, c_laws_szProgram vs = some (q, o, r) → q → SpecO Tryz.prog 13 vs o r := famP_ok _
def ac_laws_toAtom : ACode := .seq (.reg false [⟨some 1, .box 2 (.t 0), none⟩, ⟨some 2, .alloc [.s, .sl [.s [], .i .i64 0, .s []]], none⟩]) (.seq (.reg false [⟨some 3, .alloc [.s, .sl [.s
  [], .i .i64 0, .s []]], none⟩]) (.seq (.reg false [⟨some 4, .fa 0 (.t 1), none⟩, ⟨some 5, .ld false 1 (.t 4), none⟩, ⟨some 6, .fa 0 (.t 3), none⟩, ⟨none, .st
  1 (.t 6) (.t 5), none⟩]) (.seq (.reg false [⟨some 7, .fa 1 (.t 1), none⟩, ⟨some 8, .ld false 1 (.t 7), none⟩, ⟨some 9, .call 271 [.t 8], none⟩, ⟨some 10, .fa
  1 (.t 3), none⟩, ⟨none, .st 1 (.t 10) (.t 9), none⟩]) (.seq (.reg false [⟨some 11, .ld true 2 (.t 3), none⟩, ⟨none, .st 2 (.t 2) (.t 11), none⟩]) .ret))))
theorem hc_laws_toAtom : Tryz.f194.body.bind (comp Tryz.prog Tryz.f194.ntmps) = some ac_laws_toAtom := by kernel_rfl
theorem k_laws_toAtom (a : GAtom) (hpre : (totAtom a : Int) ≤ 1048576) : SpecO Tryz.prog 194 [(true, [.s a.Name, .sl false [.s [], .i .i64 0, .s []] (a.Args.map GTerm.cells)])] [] (.one (true, [.s a.Name, .sl true [.s [], .i .i64 0, .s []] (a.Args.map GTerm.cells)])) := by
  refine spec_of2 true false none Tryz.func194 hc_laws_toAtom (rvs := [.c 2 true 2]) (hΓ := mkCtx_ok (deep := true) (l := [(271, [], c_laws_toTermS)]) ⟨c_laws_toTermS_ok, trivial⟩) (h := ?_)
  intro hb hE
  simp only [go_sem] at hb
  unfold ac_laws_toAtom
  (try refine AX_AW ?_); simp only [go_sem]; (repeat' first | apply CJ.mk | intro hc); all_goals try ((repeat' first | apply And.intro | intro hs) <;> (try simp only [go_sem, Bool.and_eq_false_iff] at hs) <;> omega)
  all_goals (simp only [totAtom] at *; omega)
noncomputable def c_laws_toAtom : List V → Option (Prop × List (Nat × V) × R) := famP (fun (x : GAtom) h => k_laws_toAtom x h)
@[go_sem] theorem c_laws_toAtom_eq (a_Name : List UInt8) (a_Args : List GTerm) : c_laws_toAtom [(true, [.s a_Name, .sl false [.s [], .i .i64 0, .s []] (a_Args.map GTerm.cells)])] = some ((totAtom (GAtom.mk a_Name a_Args) : Int) ≤ 1048576, [], .one (true, [.s ((GAtom.mk a_Name a_Args).Name), .sl true [.s [], .i .i64 0, .s []] (((GAtom.mk a_Name a_Args).Args).map GTerm.cells)])) := famP_eq _ (by rintro ⟨_, _⟩ ⟨_, _⟩ h; simp at h; simp_all) (GAtom.mk a_Name a_Args)
theorem c_laws_toAtom_ok : ∀ vs q o r, c_laws_toAtom vs = some (q, o, r) → q → SpecO Tryz.prog 194 vs o r := famP_ok _
def ac_laws_toLit : ACode := .seq (.reg false [⟨some 1, .box 10 (.t 0), none⟩, ⟨some 2, .alloc [.i .i64, .s, .sl [.s [], .i .i64 0, .s []], .i .i64, .s, .i .i64, .s, .s, .i .i64, .s],
  none⟩]) (.seq (.reg false [⟨some 3, .alloc [.i .i64, .s, .sl [.s [], .i .i64 0, .s []], .i .i64, .s, .i .i64, .s, .s, .i .i64, .s], none⟩]) (.seq (.reg false
  [⟨some 4, .fa 0 (.t 1), none⟩, ⟨some 5, .ld false 1 (.t 4), none⟩, ⟨some 6, .fa 0 (.t 3), none⟩, ⟨none, .st 1 (.t 6) (.t 5), none⟩]) (.seq (.reg false [⟨some
  7, .fa 1 (.t 1), none⟩, ⟨some 8, .ld true 2 (.t 7), none⟩, ⟨some 9, .call 194 [.t 8], none⟩, ⟨some 10, .fa 1 (.t 3), none⟩, ⟨none, .st 2 (.t 10) (.t 9),
  none⟩]) (.seq (.reg false [⟨some 11, .fa 3 (.t 1), none⟩, ⟨some 12, .ld false 1 (.t 11), none⟩, ⟨some 13, .fa 3 (.t 3), none⟩, ⟨none, .st 1 (.t 13) (.t 12),
  none⟩]) (.seq (.reg false [⟨some 14, .fa 4 (.t 1), none⟩, ⟨some 15, .ld true 3 (.t 14), none⟩, ⟨some 16, .call 312 [.t 15], none⟩, ⟨some 17, .fa 4 (.t 3),
  none⟩, ⟨none, .st 3 (.t 17) (.t 16), none⟩]) (.seq (.reg false [⟨some 18, .fa 7 (.t 1), none⟩, ⟨some 19, .ld true 3 (.t 18), none⟩, ⟨some 20, .call 312 [.t
  19], none⟩, ⟨some 21, .fa 7 (.t 3), none⟩, ⟨none, .st 3 (.t 21) (.t 20), none⟩]) (.seq (.reg false [⟨some 22, .ld true 10 (.t 3), none⟩, ⟨none, .st 10 (.t 2)
  (.t 22), none⟩]) .ret)))))))
theorem hc_laws_toLit : Tryz.f272.body.bind (comp Tryz.prog Tryz.f272.ntmps) = some ac_laws_toLit := by kernel_rfl
theorem k_laws_toLit (a : GLit) (hpre : (totLit a : Int) ≤ 1048576) : SpecO Tryz.prog 272 [(true, [.i .i64 a.Kind, .s a.Atom.Name, .sl false [.s [], .i .i64 0, .s []] (a.Atom.Args.map GTerm.cells), .i .i64 a.Op, .s a.A.Var, .i .i64 a.A.Val.N, .s a.A.Val.S, .s a.B.Var, .i .i64 a.B.Val.N, .s a.B.Val.S])] [] (.one (true, [.i .i64 a.Kind, .s a.Atom.Name, .sl true [.s [], .i .i64 0, .s []] (a.Atom.Args.map GTerm.cells), .i .i64 a.Op, .s a.A.Var, .i .i64 a.A.Val.N, .s a.A.Val.S, .s a.B.Var, .i .i64 a.B.Val.N, .s a.B.Val.S])) := by
  refine spec_of2 true false none Tryz.func272 hc_laws_toLit (rvs := [.c 2 true 10]) (hΓ := mkCtx_ok (deep := true) (l := [(194, [], c_laws_toAtom), (312, [], c_laws_toTerm)]) ⟨c_laws_toAtom_ok, c_laws_toTerm_ok, trivial⟩) (h := ?_)
  intro hb hE
  simp only [go_sem] at hb
  unfold ac_laws_toLit
  (try refine AX_AW ?_); simp only [go_sem]; (repeat' first | apply CJ.mk | intro hc); all_goals try ((repeat' first | apply And.intro | intro hs) <;> (try simp only [go_sem, Bool.and_eq_false_iff] at hs) <;> omega)
  all_goals (simp only [totLit] at *; omega)
noncomputable def c_laws_toLit : List V → Option (Prop × List (Nat × V) × R) := famP (fun (x : GLit) h => k_laws_toLit x h)
@[go_sem] theorem c_laws_toLit_eq (a_Kind : Int) (a_Atom_Name : List UInt8) (a_Atom_Args : List GTerm) (a_Op : Int) (a_A_Var : List UInt8) (a_A_Val_N : Int) (a_A_Val_S : List UInt8) (a_B_Var : List UInt8) (a_B_Val_N : Int) (a_B_Val_S : List UInt8) : c_laws_toLit [(true, [.i .i64 a_Kind, .s a_Atom_Name, .sl false [.s [], .i .i64 0, .s []] (a_Atom_Args.map GTerm.cells), .i .i64 a_Op, .s a_A_Var, .i .i64 a_A_Val_N, .s a_A_Val_S, .s a_B_Var, .i .i64 a_B_Val_N, .s a_B_Val_S])] = some ((totLit (GLit.mk a_Kind (GAtom.mk a_Atom_Name a_Atom_Args) a_Op (GTerm.mk a_A_Var (GValue.mk a_A_Val_N a_A_Val_S)) (GTerm.mk a_B_Var (GValue.mk a_B_Val_N a_B_Val_S))) : Int) ≤ 1048576, [], .one (true, [.i .i64 ((GLit.mk a_Kind (GAtom.mk a_Atom_Name a_Atom_Args) a_Op (GTerm.mk a_A_Var (GValue.mk a_A_Val_N a_A_Val_S)) (GTerm.mk a_B_Var (GValue.mk a_B_Val_N a_B_Val_S))).Kind), .s (((GLit.mk a_Kind (GAtom.mk a_Atom_Name a_Atom_Args) a_Op (GTerm.mk a_A_Var (GValue.mk a_A_Val_N a_A_Val_S)) (GTerm.mk a_B_Var (GValue.mk a_B_Val_N a_B_Val_S))).Atom).Name), .sl true [.s [], .i .i64 0, .s []] ((((GLit.mk a_Kind (GAtom.mk a_Atom_Name a_Atom_Args) a_Op (GTerm.mk a_A_Var (GValue.mk a_A_Val_N a_A_Val_S)) (GTerm.mk a_B_Var (GValue.mk a_B_Val_N a_B_Val_S))).Atom).Args).map GTerm.cells), .i .i64 ((GLit.mk a_Kind (GAtom.mk a_Atom_Name a_Atom_Args) a_Op (GTerm.mk a_A_Var (GValue.mk a_A_Val_N a_A_Val_S)) (GTerm.mk a_B_Var (GValue.mk a_B_Val_N a_B_Val_S))).Op), .s (((GLit.mk a_Kind (GAtom.mk a_Atom_Name a_Atom_Args) a_Op (GTerm.mk a_A_Var (GValue.mk a_A_Val_N a_A_Val_S)) (GTerm.mk a_B_Var (GValue.mk a_B_Val_N a_B_Val_S))).A).Var), .i .i64 ((((GLit.mk a_Kind (GAtom.mk a_Atom_Name a_Atom_Args) a_Op (GTerm.mk a_A_Var (GValue.mk a_A_Val_N a_A_Val_S)) (GTerm.mk a_B_Var (GValue.mk a_B_Val_N a_B_Val_S))).A).Val).N), .s ((((GLit.mk a_Kind (GAtom.mk a_Atom_Name a_Atom_Args) a_Op (GTerm.mk a_A_Var (GValue.mk a_A_Val_N a_A_Val_S)) (GTerm.mk a_B_Var (GValue.mk a_B_Val_N a_B_Val_S))).A).Val).S), .s (((GLit.mk a_Kind (GAtom.mk a_Atom_Name a_Atom_Args) a_Op (GTerm.mk a_A_Var (GValue.mk a_A_Val_N a_A_Val_S)) (GTerm.mk a_B_Var (GValue.mk a_B_Val_N a_B_Val_S))).B).Var), .i .i64 ((((GLit.mk a_Kind (GAtom.mk a_Atom_Name a_Atom_Args) a_Op (GTerm.mk a_A_Var (GValue.mk a_A_Val_N a_A_Val_S)) (GTerm.mk a_B_Var (GValue.mk a_B_Val_N a_B_Val_S))).B).Val).N), .s ((((GLit.mk a_Kind (GAtom.mk a_Atom_Name a_Atom_Args) a_Op (GTerm.mk a_A_Var (GValue.mk a_A_Val_N a_A_Val_S)) (GTerm.mk a_B_Var (GValue.mk a_B_Val_N a_B_Val_S))).B).Val).S)])) := famP_eq _ (by rintro ⟨_, ⟨_, _⟩, _, ⟨_, ⟨_, _⟩⟩, ⟨_, ⟨_, _⟩⟩⟩ ⟨_, ⟨_, _⟩, _, ⟨_, ⟨_, _⟩⟩, ⟨_, ⟨_, _⟩⟩⟩ h; simp at h; simp_all) (GLit.mk a_Kind (GAtom.mk a_Atom_Name a_Atom_Args) a_Op (GTerm.mk a_A_Var (GValue.mk a_A_Val_N a_A_Val_S)) (GTerm.mk a_B_Var (GValue.mk a_B_Val_N a_B_Val_S)))
theorem c_laws_toLit_ok : ∀ vs q o r, c_laws_toLit vs = some (q, o, r) → q → SpecO Tryz.prog 272 vs o r := famP_ok _
def ac_laws_toLitS : ACode := .seq (.reg false [⟨some 2, .mov (.k (.v false [.nl [.i .i64 0, .s [], .sl false [.s [], .i .i64 0, .s []] [], .i .i64 0, .s [], .i .i64 0, .s [], .s [], .i .i64
  0, .s []]])), none⟩]) (.seq (.reg false [⟨some 5, .mov (.t 0), none⟩, ⟨some 6, .len (.t 5), none⟩, ⟨some 7, .mks 10 136 [.i .i64, .s, .sl [.s [], .i .i64 0,
  .s []], .i .i64, .s, .i .i64, .s, .s, .i .i64, .s] (.t 6) (.t 6), none⟩, ⟨some 3, .mov (.t 7), none⟩]) (.seq (.seq (.reg false [⟨some 4, .mov (.k (.v false
  [.c (.i .i64 0)])), none⟩]) (.block 0 (.loop (.seq (.seq (.reg false [⟨some 8, .mov (.t 4), none⟩, ⟨some 9, .mov (.t 0), none⟩, ⟨some 10, .len (.t 9), none⟩,
  ⟨some 11, .bin .lss (.t 8) (.t 10), none⟩]) (.cond (.t 11) .skip (.exit 0))) (.seq (.block 1 (.reg false [⟨some 14, .mov (.t 3), none⟩, ⟨some 15, .mov (.t 4),
  none⟩, ⟨some 16, .mov (.t 0), none⟩, ⟨some 17, .mov (.t 4), none⟩, ⟨some 18, .ia 10 (.t 16) (.t 17), none⟩, ⟨some 19, .ld true 10 (.t 18), none⟩, ⟨some 20,
  .call 272 [.t 19], none⟩, ⟨some 21, .ia 10 (.t 14) (.t 15), none⟩, ⟨none, .st 10 (.t 21) (.t 20), none⟩])) (.reg false [⟨some 12, .mov (.t 4), none⟩, ⟨some
  13, .bin .add (.t 12) (.k (.v false [.c (.i .i64 1)])), none⟩, ⟨some 4, .mov (.t 13), none⟩])))))) (.seq (.reg false [⟨some 22, .mov (.t 3), none⟩, ⟨some 2,
  .mov (.t 22), none⟩]) .ret)))
theorem hc_laws_toLitS : Tryz.f195.body.bind (comp Tryz.prog Tryz.f195.ntmps) = some ac_laws_toLitS := by kernel_rfl
theorem k_laws_toLitS (a : List GLit) (hpre : (((a.length + tots totLit a) : Nat) : Int) ≤ 1048576) : SpecO Tryz.prog 195 [(false, [.sl false [.i .i64 0, .s [], .sl false [.s [], .i .i64 0, .s []] [], .i .i64 0, .s [], .i .i64 0, .s [], .s [], .i .i64 0, .s []] (a.map (GLit.cells false false))])] [] (.one (false, [.sl true [.i .i64 0, .s [], .sl true [.s [], .i .i64 0, .s []] [], .i .i64 0, .s [], .i .i64 0, .s [], .s [], .i .i64 0, .s []] (a.map (GLit.cells true true))])) := by
  refine spec_of2 true false none Tryz.func195 hc_laws_toLitS (rvs := [.t 2]) (hΓ := mkCtx_ok (deep := true) (l := [(272, [], c_laws_toLit)]) ⟨c_laws_toLit_ok, trivial⟩) (h := ?_)
  intro hb hE
  simp only [go_sem] at hb
  unfold ac_laws_toLitS
  (try refine AX_AW ?_); simp only [go_sem, GLit_rep]; (repeat' first | apply CJ.mk | intro hc); all_goals try ((repeat' first | apply And.intro | intro hs) <;> (try simp only [go_sem, Bool.and_eq_false_iff] at hs) <;> omega)
  refine aw_loop2 true [] [0, 3] [] [] (fun i : {p : Nat × (List GLit) // p.1 ≤ a.length ∧ p.2.length = a.length ∧ p.2.take p.1 = a.take p.1} => [(4, slV (.i .i64 i.1.1))]) (fun i => []) (fun i => [(896, [.i .i64 0, .s [], .sl true [.s [], .i .i64 0, .s []] [], .i .i64 0, .s [], .i .i64 0, .s [], .s [], .i .i64 0, .s []], i.1.2.map (GLit.cells true true))]) (fun i => a.length - i.1.1) (⟨(0, List.replicate a.length default), by simp⟩) _ rfl ?_ ?_
  · simp only [go_sem, GLit_rep]
    all_goals first | omega | ((repeat' apply And.intro) <;> first | omega | rfl | skip)
  intro S0 hS0 i
  simp only [go_sem, GLit_rep] at hS0
  obtain ⟨⟨i, L⟩, hi, hl, ht⟩ := i
  simp only at hi hl ht
  have hg := tots_getD totLit a i default rfl
  (try refine AX_AW ?_); simp only [go_sem, GLit_rep, hS0]; (repeat' first | apply CJ.mk | intro hc); all_goals try ((repeat' first | apply And.intro | intro hs) <;> (try simp only [go_sem, Bool.and_eq_false_iff] at hs) <;> omega)
  · (refine lpK_n2 (⟨(i + 1, L.set i (a.getD i default)), by simp only; omega, by simp [hl], take_set_succ hl ht (by omega)⟩) _ rfl ?_; simp only [go_sem, GLit_rep, hS0]; first | done | ((repeat' apply And.intro) <;> first | omega | (refine w64 ?_ ?_ ?_ <;> omega) | rfl | skip))
  · obtain rfl := eq_of_take hl ht (by omega)
    rfl
  all_goals trace_state
noncomputable def c_laws_toLitS : List V → Option (Prop × List (Nat × V) × R) := famP (fun (x : (List GLit)) h => k_laws_toLitS x h)
@[go_sem] theorem c_laws_toLitS_eq (a : List GLit) : c_laws_toLitS [(false, [.sl false [.i .i64 0, .s [], .sl false [.s [], .i .i64 0, .s []] [], .i .i64 0, .s [], .i .i64 0, .s [], .s [], .i .i64 0, .s []] (a.map (GLit.cells false false))])] = some ((((a.length + tots totLit a) : Nat) : Int) ≤ 1048576, [], .one (false, [.sl true [.i .i64 0, .s [], .sl true [.s [], .i .i64 0, .s []] [], .i .i64 0, .s [], .i .i64 0, .s [], .s [], .i .i64 0, .s []] (a.map (GLit.cells true true))])) := famP_eq _ (by intro x y h; simp at h; simp_all) a
theorem c_laws_toLitS_ok : ∀ vs q o r, c_laws_toLitS vs = some (q, o, r) → q → SpecO Tryz.prog 195 vs o r := famP_ok _
def ac_laws_toRule : ACode := .seq (.reg false [⟨some 1, .box 4 (.t 0), none⟩, ⟨some 2, .alloc [.i .i64, .s, .sl [.s [], .i .i64 0, .s []], .sl [.i .i64 0, .s [], .sl false [.s [], .i .i64
  0, .s []] [], .i .i64 0, .s [], .i .i64 0, .s [], .s [], .i .i64 0, .s []]], none⟩]) (.seq (.reg false [⟨some 3, .alloc [.i .i64, .s, .sl [.s [], .i .i64 0,
  .s []], .sl [.i .i64 0, .s [], .sl false [.s [], .i .i64 0, .s []] [], .i .i64 0, .s [], .i .i64 0, .s [], .s [], .i .i64 0, .s []]], none⟩]) (.seq (.reg
  false [⟨some 4, .fa 0 (.t 1), none⟩, ⟨some 5, .ld false 1 (.t 4), none⟩, ⟨some 6, .fa 0 (.t 3), none⟩, ⟨none, .st 1 (.t 6) (.t 5), none⟩]) (.seq (.reg false
  [⟨some 7, .fa 1 (.t 1), none⟩, ⟨some 8, .ld true 2 (.t 7), none⟩, ⟨some 9, .call 194 [.t 8], none⟩, ⟨some 10, .fa 1 (.t 3), none⟩, ⟨none, .st 2 (.t 10) (.t
  9), none⟩]) (.seq (.reg false [⟨some 11, .fa 3 (.t 1), none⟩, ⟨some 12, .ld false 1 (.t 11), none⟩, ⟨some 13, .call 195 [.t 12], none⟩, ⟨some 14, .fa 3 (.t
  3), none⟩, ⟨none, .st 1 (.t 14) (.t 13), none⟩]) (.seq (.reg false [⟨some 15, .ld true 4 (.t 3), none⟩, ⟨none, .st 4 (.t 2) (.t 15), none⟩]) .ret)))))
theorem hc_laws_toRule : Tryz.f125.body.bind (comp Tryz.prog Tryz.f125.ntmps) = some ac_laws_toRule := by kernel_rfl
theorem k_laws_toRule (a : GRule) (hpre : (totRule a : Int) ≤ 1048576) : SpecO Tryz.prog 125 [(true, [.i .i64 a.Kind, .s a.Head.Name, .sl false [.s [], .i .i64 0, .s []] (a.Head.Args.map GTerm.cells), .sl false [.i .i64 0, .s [], .sl false [.s [], .i .i64 0, .s []] [], .i .i64 0, .s [], .i .i64 0, .s [], .s [], .i .i64 0, .s []] (a.Body.map (GLit.cells false false))])] [] (.one (true, [.i .i64 a.Kind, .s a.Head.Name, .sl true [.s [], .i .i64 0, .s []] (a.Head.Args.map GTerm.cells), .sl true [.i .i64 0, .s [], .sl true [.s [], .i .i64 0, .s []] [], .i .i64 0, .s [], .i .i64 0, .s [], .s [], .i .i64 0, .s []] (a.Body.map (GLit.cells true true))])) := by
  refine spec_of2 true false none Tryz.func125 hc_laws_toRule (rvs := [.c 2 true 4]) (hΓ := mkCtx_ok (deep := true) (l := [(194, [], c_laws_toAtom), (195, [], c_laws_toLitS)]) ⟨c_laws_toAtom_ok, c_laws_toLitS_ok, trivial⟩) (h := ?_)
  intro hb hE
  simp only [go_sem] at hb
  unfold ac_laws_toRule
  (try refine AX_AW ?_); simp only [go_sem]; (repeat' first | apply CJ.mk | intro hc); all_goals try ((repeat' first | apply And.intro | intro hs) <;> (try simp only [go_sem, Bool.and_eq_false_iff] at hs) <;> omega)
  all_goals (simp only [totRule] at *; omega)
noncomputable def c_laws_toRule : List V → Option (Prop × List (Nat × V) × R) := famP (fun (x : GRule) h => k_laws_toRule x h)
@[go_sem] theorem c_laws_toRule_eq (a_Kind : Int) (a_Head_Name : List UInt8) (a_Head_Args : List GTerm) (a_Body : List GLit) : c_laws_toRule [(true, [.i .i64 a_Kind, .s a_Head_Name, .sl false [.s [], .i .i64 0, .s []] (a_Head_Args.map GTerm.cells), .sl false [.i .i64 0, .s [], .sl false [.s [], .i .i64 0, .s []] [], .i .i64 0, .s [], .i .i64 0, .s [], .s [], .i .i64 0, .s []] (a_Body.map (GLit.cells false false))])] = some ((totRule (GRule.mk a_Kind (GAtom.mk a_Head_Name a_Head_Args) a_Body) : Int) ≤ 1048576, [], .one (true, [.i .i64 ((GRule.mk a_Kind (GAtom.mk a_Head_Name a_Head_Args) a_Body).Kind), .s (((GRule.mk a_Kind (GAtom.mk a_Head_Name a_Head_Args) a_Body).Head).Name), .sl true [.s [], .i .i64 0, .s []] ((((GRule.mk a_Kind (GAtom.mk a_Head_Name a_Head_Args) a_Body).Head).Args).map GTerm.cells), .sl true [.i .i64 0, .s [], .sl true [.s [], .i .i64 0, .s []] [], .i .i64 0, .s [], .i .i64 0, .s [], .s [], .i .i64 0, .s []] (((GRule.mk a_Kind (GAtom.mk a_Head_Name a_Head_Args) a_Body).Body).map (GLit.cells true true))])) := famP_eq _ (by rintro ⟨_, ⟨_, _⟩, _⟩ ⟨_, ⟨_, _⟩, _⟩ h; simp at h; simp_all) (GRule.mk a_Kind (GAtom.mk a_Head_Name a_Head_Args) a_Body)
theorem c_laws_toRule_ok : ∀ vs q o r, c_laws_toRule vs = some (q, o, r) → q → SpecO Tryz.prog 125 vs o r := famP_ok _
def ac_laws_toRuleS : ACode := .seq (.reg false [⟨some 2, .mov (.k (.v false [.nl [.i .i64 0, .s [], .sl false [.s [], .i .i64 0, .s []] [], .sl false [.i .i64 0, .s [], .sl false [.s [], .i
  .i64 0, .s []] [], .i .i64 0, .s [], .i .i64 0, .s [], .s [], .i .i64 0, .s []] []]])), none⟩]) (.seq (.reg false [⟨some 5, .mov (.t 0), none⟩, ⟨some 6, .len
  (.t 5), none⟩, ⟨some 7, .mks 4 72 [.i .i64, .s, .sl [.s [], .i .i64 0, .s []], .sl [.i .i64 0, .s [], .sl false [.s [], .i .i64 0, .s []] [], .i .i64 0, .s
  [], .i .i64 0, .s [], .s [], .i .i64 0, .s []]] (.t 6) (.t 6), none⟩, ⟨some 3, .mov (.t 7), none⟩]) (.seq (.seq (.reg false [⟨some 4, .mov (.k (.v false [.c
  (.i .i64 0)])), none⟩]) (.block 0 (.loop (.seq (.seq (.reg false [⟨some 8, .mov (.t 4), none⟩, ⟨some 9, .mov (.t 0), none⟩, ⟨some 10, .len (.t 9), none⟩,
  ⟨some 11, .bin .lss (.t 8) (.t 10), none⟩]) (.cond (.t 11) .skip (.exit 0))) (.seq (.block 1 (.reg false [⟨some 14, .mov (.t 3), none⟩, ⟨some 15, .mov (.t 4),
  none⟩, ⟨some 16, .mov (.t 0), none⟩, ⟨some 17, .mov (.t 4), none⟩, ⟨some 18, .ia 4 (.t 16) (.t 17), none⟩, ⟨some 19, .ld true 4 (.t 18), none⟩, ⟨some 20,
  .call 125 [.t 19], none⟩, ⟨some 21, .ia 4 (.t 14) (.t 15), none⟩, ⟨none, .st 4 (.t 21) (.t 20), none⟩])) (.reg false [⟨some 12, .mov (.t 4), none⟩, ⟨some 13,
  .bin .add (.t 12) (.k (.v false [.c (.i .i64 1)])), none⟩, ⟨some 4, .mov (.t 13), none⟩])))))) (.seq (.reg false [⟨some 22, .mov (.t 3), none⟩, ⟨some 2, .mov
  (.t 22), none⟩]) .ret)))
theorem hc_laws_toRuleS : Tryz.f63.body.bind (comp Tryz.prog Tryz.f63.ntmps) = some ac_laws_toRuleS := by kernel_rfl
theorem k_laws_toRuleS (a : List GRule) (hpre : (((a.length + tots totRule a) : Nat) : Int) ≤ 1048576) : SpecO Tryz.prog 63 [(false, [.sl false [.i .i64 0, .s [], .sl false [.s [], .i .i64 0, .s []] [], .sl false [.i .i64 0, .s [], .sl false [.s [], .i .i64 0, .s []] [], .i .i64 0, .s [], .i .i64 0, .s [], .s [], .i .i64 0, .s []] []] (a.map (GRule.cells false false))])] [] (.one (false, [.sl true [.i .i64 0, .s [], .sl true [.s [], .i .i64 0, .s []] [], .sl true [.i .i64 0, .s [], .sl true [.s [], .i .i64 0, .s []] [], .i .i64 0, .s [], .i .i64 0, .s [], .s [], .i .i64 0, .s []] []] (a.map (GRule.cells true true))])) := by
  refine spec_of2 true false none Tryz.func63 hc_laws_toRuleS (rvs := [.t 2]) (hΓ := mkCtx_ok (deep := true) (l := [(125, [], c_laws_toRule)]) ⟨c_laws_toRule_ok, trivial⟩) (h := ?_)
  intro hb hE
  simp only [go_sem] at hb
  unfold ac_laws_toRuleS
  (try refine AX_AW ?_); simp only [go_sem, GRule_rep]; (repeat' first | apply CJ.mk | intro hc); all_goals try ((repeat' first | apply And.intro | intro hs) <;> (try simp only [go_sem, Bool.and_eq_false_iff] at hs) <;> omega)
  refine aw_loop2 true [] [0, 3] [] [] (fun i : {p : Nat × (List GRule) // p.1 ≤ a.length ∧ p.2.length = a.length ∧ p.2.take p.1 = a.take p.1} => [(4, slV (.i .i64 i.1.1))]) (fun i => []) (fun i => [(896, [.i .i64 0, .s [], .sl true [.s [], .i .i64 0, .s []] [], .sl true [.i .i64 0, .s [], .sl true [.s [], .i .i64 0, .s []] [], .i .i64 0, .s [], .i .i64 0, .s [], .s [], .i .i64 0, .s []] []], i.1.2.map (GRule.cells true true))]) (fun i => a.length - i.1.1) (⟨(0, List.replicate a.length default), by simp⟩) _ rfl ?_ ?_
  · simp only [go_sem, GRule_rep]
    all_goals first | omega | ((repeat' apply And.intro) <;> first | omega | rfl | skip)
  intro S0 hS0 i
  simp only [go_sem, GRule_rep] at hS0
  obtain ⟨⟨i, L⟩, hi, hl, ht⟩ := i
  simp only at hi hl ht
  have hg := tots_getD totRule a i default rfl
  (try refine AX_AW ?_); simp only [go_sem, GRule_rep, hS0]; (repeat' first | apply CJ.mk | intro hc); all_goals try ((repeat' first | apply And.intro | intro hs) <;> (try simp only [go_sem, Bool.and_eq_false_iff] at hs) <;> omega)
  · (refine lpK_n2 (⟨(i + 1, L.set i (a.getD i default)), by simp only; omega, by simp [hl], take_set_succ hl ht (by omega)⟩) _ rfl ?_; simp only [go_sem, GRule_rep, hS0]; first | done | ((repeat' apply And.intro) <;> first | omega | (refine w64 ?_ ?_ ?_ <;> omega) | rfl | skip))
  · obtain rfl := eq_of_take hl ht (by omega)
    rfl
  all_goals trace_state
noncomputable def c_laws_toRuleS : List V → Option (Prop × List (Nat × V) × R) := famP (fun (x : (List GRule)) h => k_laws_toRuleS x h)
@[go_sem] theorem c_laws_toRuleS_eq (a : List GRule) : c_laws_toRuleS [(false, [.sl false [.i .i64 0, .s [], .sl false [.s [], .i .i64 0, .s []] [], .sl false [.i .i64 0, .s [], .sl false [.s [], .i .i64 0, .s []] [], .i .i64 0, .s [], .i .i64 0, .s [], .s [], .i .i64 0, .s []] []] (a.map (GRule.cells false false))])] = some ((((a.length + tots totRule a) : Nat) : Int) ≤ 1048576, [], .one (false, [.sl true [.i .i64 0, .s [], .sl true [.s [], .i .i64 0, .s []] [], .sl true [.i .i64 0, .s [], .sl true [.s [], .i .i64 0, .s []] [], .i .i64 0, .s [], .i .i64 0, .s [], .s [], .i .i64 0, .s []] []] (a.map (GRule.cells true true))])) := famP_eq _ (by intro x y h; simp at h; simp_all) a
theorem c_laws_toRuleS_ok : ∀ vs q o r, c_laws_toRuleS vs = some (q, o, r) → q → SpecO Tryz.prog 63 vs o r := famP_ok _
def ac_laws_toDecl : ACode := .seq (.reg false [⟨some 1, .box 3 (.t 0), none⟩, ⟨some 2, .alloc [.i .i64, .s, .i .i64], none⟩]) (.seq (.reg false [⟨some 3, .alloc [.i .i64, .s, .i .i64],
  none⟩]) (.seq (.reg false [⟨some 4, .fa 0 (.t 1), none⟩, ⟨some 5, .ld false 1 (.t 4), none⟩, ⟨some 6, .fa 0 (.t 3), none⟩, ⟨none, .st 1 (.t 6) (.t 5), none⟩])
  (.seq (.reg false [⟨some 7, .fa 1 (.t 1), none⟩, ⟨some 8, .ld false 1 (.t 7), none⟩, ⟨some 9, .fa 1 (.t 3), none⟩, ⟨none, .st 1 (.t 9) (.t 8), none⟩]) (.seq
  (.reg false [⟨some 10, .fa 2 (.t 1), none⟩, ⟨some 11, .ld false 1 (.t 10), none⟩, ⟨some 12, .fa 2 (.t 3), none⟩, ⟨none, .st 1 (.t 12) (.t 11), none⟩]) (.seq
  (.reg false [⟨some 13, .ld true 3 (.t 3), none⟩, ⟨none, .st 3 (.t 2) (.t 13), none⟩]) .ret)))))
theorem hc_laws_toDecl : Tryz.f124.body.bind (comp Tryz.prog Tryz.f124.ntmps) = some ac_laws_toDecl := by kernel_rfl
theorem k_laws_toDecl (a : GDecl) : SpecO Tryz.prog 124 [(true, [.i .i64 a.Kind, .s a.Name, .i .i64 a.Arity])] [] (.one (true, [.i .i64 a.Kind, .s a.Name, .i .i64 a.Arity])) := by
  refine spec_of2 true false none Tryz.func124 hc_laws_toDecl (rvs := [.c 2 true 3]) (hΓ := mkCtx_ok (deep := true) (l := []) trivial) (h := ?_)
  intro hb hE
  simp only [go_sem] at hb
  unfold ac_laws_toDecl
  (try refine AX_AW ?_); simp only [go_sem]; (repeat' first | apply CJ.mk | intro hc); all_goals try ((repeat' first | apply And.intro | intro hs) <;> (try simp only [go_sem, Bool.and_eq_false_iff] at hs) <;> omega)
noncomputable def c_laws_toDecl : List V → Option (Prop × List (Nat × V) × R) := famQ (fun (x : GDecl) => k_laws_toDecl x)
@[go_sem] theorem c_laws_toDecl_eq (a_Kind : Int) (a_Name : List UInt8) (a_Arity : Int) : c_laws_toDecl [(true, [.i .i64 a_Kind, .s a_Name, .i .i64 a_Arity])] = some (True, [], .one (true, [.i .i64 ((GDecl.mk a_Kind a_Name a_Arity).Kind), .s ((GDecl.mk a_Kind a_Name a_Arity).Name), .i .i64 ((GDecl.mk a_Kind a_Name a_Arity).Arity)])) := famQ_eq _ (by rintro ⟨_, _, _⟩ ⟨_, _, _⟩ h; simp at h; simp_all) (GDecl.mk a_Kind a_Name a_Arity)
theorem c_laws_toDecl_ok : ∀ vs q o r, c_laws_toDecl vs = some (q, o, r) → q → SpecO Tryz.prog 124 vs o r := famQ_ok _
def ac_laws_toDeclS : ACode := .seq (.reg false [⟨some 2, .mov (.k (.v false [.nl [.i .i64 0, .s [], .i .i64 0]])), none⟩]) (.seq (.reg false [⟨some 5, .mov (.t 0), none⟩, ⟨some 6, .len (.t
  5), none⟩, ⟨some 7, .mks 3 32 [.i .i64, .s, .i .i64] (.t 6) (.t 6), none⟩, ⟨some 3, .mov (.t 7), none⟩]) (.seq (.seq (.reg false [⟨some 4, .mov (.k (.v false
  [.c (.i .i64 0)])), none⟩]) (.block 0 (.loop (.seq (.seq (.reg false [⟨some 8, .mov (.t 4), none⟩, ⟨some 9, .mov (.t 0), none⟩, ⟨some 10, .len (.t 9), none⟩,
  ⟨some 11, .bin .lss (.t 8) (.t 10), none⟩]) (.cond (.t 11) .skip (.exit 0))) (.seq (.block 1 (.reg false [⟨some 14, .mov (.t 3), none⟩, ⟨some 15, .mov (.t 4),
  none⟩, ⟨some 16, .mov (.t 0), none⟩, ⟨some 17, .mov (.t 4), none⟩, ⟨some 18, .ia 3 (.t 16) (.t 17), none⟩, ⟨some 19, .ld true 3 (.t 18), none⟩, ⟨some 20,
  .call 124 [.t 19], none⟩, ⟨some 21, .ia 3 (.t 14) (.t 15), none⟩, ⟨none, .st 3 (.t 21) (.t 20), none⟩])) (.reg false [⟨some 12, .mov (.t 4), none⟩, ⟨some 13,
  .bin .add (.t 12) (.k (.v false [.c (.i .i64 1)])), none⟩, ⟨some 4, .mov (.t 13), none⟩])))))) (.seq (.reg false [⟨some 22, .mov (.t 3), none⟩, ⟨some 2, .mov
  (.t 22), none⟩]) .ret)))
theorem hc_laws_toDeclS : Tryz.f62.body.bind (comp Tryz.prog Tryz.f62.ntmps) = some ac_laws_toDeclS := by kernel_rfl
theorem k_laws_toDeclS (a : List GDecl) (hpre : (((a.length + tots totDecl a) : Nat) : Int) ≤ 1048576) : SpecO Tryz.prog 62 [(false, [.sl false [.i .i64 0, .s [], .i .i64 0] (a.map GDecl.cells)])] [] (.one (false, [.sl true [.i .i64 0, .s [], .i .i64 0] (a.map GDecl.cells)])) := by
  refine spec_of2 true false none Tryz.func62 hc_laws_toDeclS (rvs := [.t 2]) (hΓ := mkCtx_ok (deep := true) (l := [(124, [], c_laws_toDecl)]) ⟨c_laws_toDecl_ok, trivial⟩) (h := ?_)
  intro hb hE
  simp only [go_sem] at hb
  unfold ac_laws_toDeclS
  (try refine AX_AW ?_); simp only [go_sem, GDecl_rep]; (repeat' first | apply CJ.mk | intro hc); all_goals try ((repeat' first | apply And.intro | intro hs) <;> (try simp only [go_sem, Bool.and_eq_false_iff] at hs) <;> omega)
  refine aw_loop2 true [] [0, 3] [] [] (fun i : {p : Nat × (List GDecl) // p.1 ≤ a.length ∧ p.2.length = a.length ∧ p.2.take p.1 = a.take p.1} => [(4, slV (.i .i64 i.1.1))]) (fun i => []) (fun i => [(896, [.i .i64 0, .s [], .i .i64 0], i.1.2.map GDecl.cells)]) (fun i => a.length - i.1.1) (⟨(0, List.replicate a.length default), by simp⟩) _ rfl ?_ ?_
  · simp only [go_sem, GDecl_rep]
    all_goals first | omega | ((repeat' apply And.intro) <;> first | omega | rfl | skip)
  intro S0 hS0 i
  simp only [go_sem, GDecl_rep] at hS0
  obtain ⟨⟨i, L⟩, hi, hl, ht⟩ := i
  simp only at hi hl ht
  (try refine AX_AW ?_); simp only [go_sem, GDecl_rep, hS0]; (repeat' first | apply CJ.mk | intro hc); all_goals try ((repeat' first | apply And.intro | intro hs) <;> (try simp only [go_sem, Bool.and_eq_false_iff] at hs) <;> omega)
  · (refine lpK_n2 (⟨(i + 1, L.set i (a.getD i default)), by simp only; omega, by simp [hl], take_set_succ hl ht (by omega)⟩) _ rfl ?_; simp only [go_sem, GDecl_rep, hS0]; first | done | ((repeat' apply And.intro) <;> first | omega | (refine w64 ?_ ?_ ?_ <;> omega) | rfl | skip))
  · obtain rfl := eq_of_take hl ht (by omega)
    rfl
  all_goals trace_state
noncomputable def c_laws_toDeclS : List V → Option (Prop × List (Nat × V) × R) := famP (fun (x : (List GDecl)) h => k_laws_toDeclS x h)
@[go_sem] theorem c_laws_toDeclS_eq (a : List GDecl) : c_laws_toDeclS [(false, [.sl false [.i .i64 0, .s [], .i .i64 0] (a.map GDecl.cells)])] = some ((((a.length + tots totDecl a) : Nat) : Int) ≤ 1048576, [], .one (false, [.sl true [.i .i64 0, .s [], .i .i64 0] (a.map GDecl.cells)])) := famP_eq _ (by intro x y h; simp at h; simp_all) a
theorem c_laws_toDeclS_ok : ∀ vs q o r, c_laws_toDeclS vs = some (q, o, r) → q → SpecO Tryz.prog 62 vs o r := famP_ok _
def ac_laws_toProgram : ACode := .seq (.reg false [⟨some 1, .box 2 (.t 0), none⟩, ⟨some 2, .alloc [.sl [.i .i64 0, .s [], .i .i64 0], .sl [.i .i64 0, .s [], .sl false [.s [], .i .i64 0, .s []]
  [], .sl false [.i .i64 0, .s [], .sl false [.s [], .i .i64 0, .s []] [], .i .i64 0, .s [], .i .i64 0, .s [], .s [], .i .i64 0, .s []] []]], none⟩]) (.seq
  (.reg false [⟨some 3, .alloc [.sl [.i .i64 0, .s [], .i .i64 0], .sl [.i .i64 0, .s [], .sl false [.s [], .i .i64 0, .s []] [], .sl false [.i .i64 0, .s [],
  .sl false [.s [], .i .i64 0, .s []] [], .i .i64 0, .s [], .i .i64 0, .s [], .s [], .i .i64 0, .s []] []]], none⟩]) (.seq (.reg false [⟨some 4, .fa 0 (.t 1),
  none⟩, ⟨some 5, .ld false 1 (.t 4), none⟩, ⟨some 6, .call 62 [.t 5], none⟩, ⟨some 7, .fa 0 (.t 3), none⟩, ⟨none, .st 1 (.t 7) (.t 6), none⟩]) (.seq (.reg
  false [⟨some 8, .fa 1 (.t 1), none⟩, ⟨some 9, .ld false 1 (.t 8), none⟩, ⟨some 10, .call 63 [.t 9], none⟩, ⟨some 11, .fa 1 (.t 3), none⟩, ⟨none, .st 1 (.t 11)
  (.t 10), none⟩]) (.seq (.reg false [⟨some 12, .ld true 2 (.t 3), none⟩, ⟨none, .st 2 (.t 2) (.t 12), none⟩]) .ret))))
theorem hc_laws_toProgram : Tryz.f15.body.bind (comp Tryz.prog Tryz.f15.ntmps) = some ac_laws_toProgram := by kernel_rfl
theorem k_laws_toProgram (a : GProgram) (hpre : (totProgram a : Int) ≤ 1048576) : SpecO Tryz.prog 15 [(true, [.sl false [.i .i64 0, .s [], .i .i64 0] (a.Decls.map GDecl.cells), .sl false [.i .i64 0, .s [], .sl false [.s [], .i .i64 0, .s []] [], .sl false [.i .i64 0, .s [], .sl false [.s [], .i .i64 0, .s []] [], .i .i64 0, .s [], .i .i64 0, .s [], .s [], .i .i64 0, .s []] []] (a.Rules.map (GRule.cells false false))])] [] (.one (true, [.sl true [.i .i64 0, .s [], .i .i64 0] (a.Decls.map GDecl.cells), .sl true [.i .i64 0, .s [], .sl true [.s [], .i .i64 0, .s []] [], .sl true [.i .i64 0, .s [], .sl true [.s [], .i .i64 0, .s []] [], .i .i64 0, .s [], .i .i64 0, .s [], .s [], .i .i64 0, .s []] []] (a.Rules.map (GRule.cells true true))])) := by
  refine spec_of2 true false none Tryz.func15 hc_laws_toProgram (rvs := [.c 2 true 2]) (hΓ := mkCtx_ok (deep := true) (l := [(62, [], c_laws_toDeclS), (63, [], c_laws_toRuleS)]) ⟨c_laws_toDeclS_ok, c_laws_toRuleS_ok, trivial⟩) (h := ?_)
  intro hb hE
  simp only [go_sem] at hb
  unfold ac_laws_toProgram
  (try refine AX_AW ?_); simp only [go_sem]; (repeat' first | apply CJ.mk | intro hc); all_goals try ((repeat' first | apply And.intro | intro hs) <;> (try simp only [go_sem, Bool.and_eq_false_iff] at hs) <;> omega)
  all_goals (simp only [totProgram] at *; omega)
noncomputable def c_laws_toProgram : List V → Option (Prop × List (Nat × V) × R) := famP (fun (x : GProgram) h => k_laws_toProgram x h)
@[go_sem] theorem c_laws_toProgram_eq (a_Decls : List GDecl) (a_Rules : List GRule) : c_laws_toProgram [(true, [.sl false [.i .i64 0, .s [], .i .i64 0] (a_Decls.map GDecl.cells), .sl false [.i .i64 0, .s [], .sl false [.s [], .i .i64 0, .s []] [], .sl false [.i .i64 0, .s [], .sl false [.s [], .i .i64 0, .s []] [], .i .i64 0, .s [], .i .i64 0, .s [], .s [], .i .i64 0, .s []] []] (a_Rules.map (GRule.cells false false))])] = some ((totProgram (GProgram.mk a_Decls a_Rules) : Int) ≤ 1048576, [], .one (true, [.sl true [.i .i64 0, .s [], .i .i64 0] (((GProgram.mk a_Decls a_Rules).Decls).map GDecl.cells), .sl true [.i .i64 0, .s [], .sl true [.s [], .i .i64 0, .s []] [], .sl true [.i .i64 0, .s [], .sl true [.s [], .i .i64 0, .s []] [], .i .i64 0, .s [], .i .i64 0, .s [], .s [], .i .i64 0, .s []] []] (((GProgram.mk a_Decls a_Rules).Rules).map (GRule.cells true true))])) := famP_eq _ (by rintro ⟨_, _⟩ ⟨_, _⟩ h; simp at h; simp_all) (GProgram.mk a_Decls a_Rules)
theorem c_laws_toProgram_ok : ∀ vs q o r, c_laws_toProgram vs = some (q, o, r) → q → SpecO Tryz.prog 15 vs o r := famP_ok _
def ac_laws_eqAtom : ACode := .seq (.reg false [⟨some 2, .box 2 (.t 0), none⟩, ⟨some 3, .box 2 (.t 1), none⟩, ⟨some 4, .mov (.k (.v false [.c (.b false)])), none⟩]) (.seq (.seq (.reg false
  [⟨some 5, .fa 0 (.t 2), none⟩, ⟨some 6, .ld false 1 (.t 5), none⟩, ⟨some 7, .fa 0 (.t 3), none⟩, ⟨some 8, .ld false 1 (.t 7), none⟩, ⟨some 9, .bin .neq (.t 6)
  (.t 8), none⟩]) (.cond (.t 9) (.seq (.reg false [⟨some 4, .mov (.k (.v false [.c (.b false)])), none⟩]) .ret) .skip)) (.seq (.seq (.reg false [⟨some 10, .fa 1
  (.t 2), none⟩, ⟨some 11, .ld false 1 (.t 10), none⟩, ⟨some 12, .fa 1 (.t 3), none⟩, ⟨some 13, .ld false 1 (.t 12), none⟩, ⟨some 14, .call 279 [.t 11, .t 13],
  none⟩, ⟨some 15, .not (.t 14), none⟩]) (.cond (.t 15) (.seq (.reg false [⟨some 4, .mov (.k (.v false [.c (.b false)])), none⟩]) .ret) .skip)) (.seq (.reg
  false [⟨some 4, .mov (.k (.v false [.c (.b true)])), none⟩]) .ret)))
theorem hc_laws_eqAtom : Tryz.f199.body.bind (comp Tryz.prog Tryz.f199.ntmps) = some ac_laws_eqAtom := by kernel_rfl
theorem k_laws_eqAtom (a : GAtom) (b : GAtom) : SpecO Tryz.prog 199 [(true, [.s a.Name, .sl false [.s [], .i .i64 0, .s []] (a.Args.map GTerm.cells)]), (true, [.s b.Name, .sl false [.s [], .i .i64 0, .s []] (b.Args.map GTerm.cells)])] [] (.one (false, [.b (decide (a = b))])) := by
  refine spec_of2 false false none Tryz.func199 hc_laws_eqAtom (rvs := [.t 4]) (hΓ := mkCtx_ok (deep := false) (l := [(279, [], c_laws_eqTermS)]) ⟨c_laws_eqTermS_ok, trivial⟩) (h := ?_)
  intro hb hE
  simp only [go_sem] at hb
  unfold ac_laws_eqAtom
  (try refine AX_AW ?_); simp only [go_sem]; (repeat' first | apply CJ.mk | intro hc); all_goals try ((repeat' first | apply And.intro | intro hs) <;> (try simp only [go_sem, Bool.and_eq_false_iff] at hs) <;> omega)
  all_goals (cases a; cases b; simp_all)
noncomputable def c_laws_eqAtom : List V → Option (Prop × List (Nat × V) × R) := famQ (fun (x : GAtom × GAtom) => k_laws_eqAtom x.1 x.2)
@[go_sem] theorem c_laws_eqAtom_eq (a_Name : List UInt8) (a_Args : List GTerm) (b_Name : List UInt8) (b_Args : List GTerm) : c_laws_eqAtom [(true, [.s a_Name, .sl false [.s [], .i .i64 0, .s []] (a_Args.map GTerm.cells)]), (true, [.s b_Name, .sl false [.s [], .i .i64 0, .s []] (b_Args.map GTerm.cells)])] = some (True, [], .one (false, [.b (decide ((GAtom.mk a_Name a_Args) = (GAtom.mk b_Name b_Args)))])) := famQ_eq _ (by rintro ⟨⟨_, _⟩, ⟨_, _⟩⟩ ⟨⟨_, _⟩, ⟨_, _⟩⟩ h; simp at h; simp_all) ((GAtom.mk a_Name a_Args), (GAtom.mk b_Name b_Args))
theorem c_laws_eqAtom_ok : ∀ vs q o r, c_laws_eqAtom vs = some (q, o, r) → q → SpecO Tryz.prog 199 vs o r := famQ_ok _
def ac_laws_eqLit : ACode := .seq (.reg false [⟨some 2, .box 10 (.t 0), none⟩, ⟨some 3, .box 10 (.t 1), none⟩, ⟨some 4, .mov (.k (.v false [.c (.b false)])), none⟩]) (.seq (.seq (.reg false
  [⟨some 5, .fa 0 (.t 2), none⟩, ⟨some 6, .ld false 1 (.t 5), none⟩, ⟨some 7, .fa 0 (.t 3), none⟩, ⟨some 8, .ld false 1 (.t 7), none⟩, ⟨some 9, .bin .neq (.t 6)
  (.t 8), none⟩]) (.cond (.t 9) (.seq (.reg false [⟨some 4, .mov (.k (.v false [.c (.b false)])), none⟩]) .ret) .skip)) (.seq (.seq (.reg false [⟨some 10, .fa 1
  (.t 2), none⟩, ⟨some 11, .ld true 2 (.t 10), none⟩, ⟨some 12, .fa 1 (.t 3), none⟩, ⟨some 13, .ld true 2 (.t 12), none⟩, ⟨some 14, .call 199 [.t 11, .t 13],
  none⟩, ⟨some 15, .not (.t 14), none⟩]) (.cond (.t 15) (.seq (.reg false [⟨some 4, .mov (.k (.v false [.c (.b false)])), none⟩]) .ret) .skip)) (.seq (.seq
  (.reg false [⟨some 16, .fa 3 (.t 2), none⟩, ⟨some 17, .ld false 1 (.t 16), none⟩, ⟨some 18, .fa 3 (.t 3), none⟩, ⟨some 19, .ld false 1 (.t 18), none⟩, ⟨some
  20, .bin .neq (.t 17) (.t 19), none⟩]) (.cond (.t 20) (.seq (.reg false [⟨some 4, .mov (.k (.v false [.c (.b false)])), none⟩]) .ret) .skip)) (.seq (.seq
  (.reg false [⟨some 21, .fa 4 (.t 2), none⟩, ⟨some 22, .ld true 3 (.t 21), none⟩, ⟨some 23, .fa 4 (.t 3), none⟩, ⟨some 24, .ld true 3 (.t 23), none⟩, ⟨some 25,
  .call 316 [.t 22, .t 24], none⟩, ⟨some 26, .not (.t 25), none⟩]) (.cond (.t 26) (.seq (.reg false [⟨some 4, .mov (.k (.v false [.c (.b false)])), none⟩])
  .ret) .skip)) (.seq (.seq (.reg false [⟨some 27, .fa 7 (.t 2), none⟩, ⟨some 28, .ld true 3 (.t 27), none⟩, ⟨some 29, .fa 7 (.t 3), none⟩, ⟨some 30, .ld true 3
  (.t 29), none⟩, ⟨some 31, .call 316 [.t 28, .t 30], none⟩, ⟨some 32, .not (.t 31), none⟩]) (.cond (.t 32) (.seq (.reg false [⟨some 4, .mov (.k (.v false [.c
  (.b false)])), none⟩]) .ret) .skip)) (.seq (.reg false [⟨some 4, .mov (.k (.v false [.c (.b true)])), none⟩]) .ret))))))
theorem hc_laws_eqLit : Tryz.f280.body.bind (comp Tryz.prog Tryz.f280.ntmps) = some ac_laws_eqLit := by kernel_rfl
theorem k_laws_eqLit (a : GLit) (b : GLit) : SpecO Tryz.prog 280 [(true, [.i .i64 a.Kind, .s a.Atom.Name, .sl false [.s [], .i .i64 0, .s []] (a.Atom.Args.map GTerm.cells), .i .i64 a.Op, .s a.A.Var, .i .i64 a.A.Val.N, .s a.A.Val.S, .s a.B.Var, .i .i64 a.B.Val.N, .s a.B.Val.S]), (true, [.i .i64 b.Kind, .s b.Atom.Name, .sl false [.s [], .i .i64 0, .s []] (b.Atom.Args.map GTerm.cells), .i .i64 b.Op, .s b.A.Var, .i .i64 b.A.Val.N, .s b.A.Val.S, .s b.B.Var, .i .i64 b.B.Val.N, .s b.B.Val.S])] [] (.one (false, [.b (decide (a = b))])) := by
  refine spec_of2 false false none Tryz.func280 hc_laws_eqLit (rvs := [.t 4]) (hΓ := mkCtx_ok (deep := false) (l := [(199, [], c_laws_eqAtom), (316, [], c_laws_eqTerm)]) ⟨c_laws_eqAtom_ok, c_laws_eqTerm_ok, trivial⟩) (h := ?_)
  intro hb hE
  simp only [go_sem] at hb
  unfold ac_laws_eqLit
  (try refine AX_AW ?_); simp only [go_sem]; (repeat' first | apply CJ.mk | intro hc); all_goals try ((repeat' first | apply And.intro | intro hs) <;> (try simp only [go_sem, Bool.and_eq_false_iff] at hs) <;> omega)
  all_goals (cases a; cases b; simp_all)
noncomputable def c_laws_eqLit : List V → Option (Prop × List (Nat × V) × R) := famQ (fun (x : GLit × GLit) => k_laws_eqLit x.1 x.2)
@[go_sem] theorem c_laws_eqLit_eq (a_Kind : Int) (a_Atom_Name : List UInt8) (a_Atom_Args : List GTerm) (a_Op : Int) (a_A_Var : List UInt8) (a_A_Val_N : Int) (a_A_Val_S : List UInt8) (a_B_Var : List UInt8) (a_B_Val_N : Int) (a_B_Val_S : List UInt8) (b_Kind : Int) (b_Atom_Name : List UInt8) (b_Atom_Args : List GTerm) (b_Op : Int) (b_A_Var : List UInt8) (b_A_Val_N : Int) (b_A_Val_S : List UInt8) (b_B_Var : List UInt8) (b_B_Val_N : Int) (b_B_Val_S : List UInt8) : c_laws_eqLit [(true, [.i .i64 a_Kind, .s a_Atom_Name, .sl false [.s [], .i .i64 0, .s []] (a_Atom_Args.map GTerm.cells), .i .i64 a_Op, .s a_A_Var, .i .i64 a_A_Val_N, .s a_A_Val_S, .s a_B_Var, .i .i64 a_B_Val_N, .s a_B_Val_S]), (true, [.i .i64 b_Kind, .s b_Atom_Name, .sl false [.s [], .i .i64 0, .s []] (b_Atom_Args.map GTerm.cells), .i .i64 b_Op, .s b_A_Var, .i .i64 b_A_Val_N, .s b_A_Val_S, .s b_B_Var, .i .i64 b_B_Val_N, .s b_B_Val_S])] = some (True, [], .one (false, [.b (decide ((GLit.mk a_Kind (GAtom.mk a_Atom_Name a_Atom_Args) a_Op (GTerm.mk a_A_Var (GValue.mk a_A_Val_N a_A_Val_S)) (GTerm.mk a_B_Var (GValue.mk a_B_Val_N a_B_Val_S))) = (GLit.mk b_Kind (GAtom.mk b_Atom_Name b_Atom_Args) b_Op (GTerm.mk b_A_Var (GValue.mk b_A_Val_N b_A_Val_S)) (GTerm.mk b_B_Var (GValue.mk b_B_Val_N b_B_Val_S)))))])) := famQ_eq _ (by rintro ⟨⟨_, ⟨_, _⟩, _, ⟨_, ⟨_, _⟩⟩, ⟨_, ⟨_, _⟩⟩⟩, ⟨_, ⟨_, _⟩, _, ⟨_, ⟨_, _⟩⟩, ⟨_, ⟨_, _⟩⟩⟩⟩ ⟨⟨_, ⟨_, _⟩, _, ⟨_, ⟨_, _⟩⟩, ⟨_, ⟨_, _⟩⟩⟩, ⟨_, ⟨_, _⟩, _, ⟨_, ⟨_, _⟩⟩, ⟨_, ⟨_, _⟩⟩⟩⟩ h; simp at h; simp_all) ((GLit.mk a_Kind (GAtom.mk a_Atom_Name a_Atom_Args) a_Op (GTerm.mk a_A_Var (GValue.mk a_A_Val_N a_A_Val_S)) (GTerm.mk a_B_Var (GValue.mk a_B_Val_N a_B_Val_S))), (GLit.mk b_Kind (GAtom.mk b_Atom_Name b_Atom_Args) b_Op (GTerm.mk b_A_Var (GValue.mk b_A_Val_N b_A_Val_S)) (GTerm.mk b_B_Var (GValue.mk b_B_Val_N b_B_Val_S))))
theorem c_laws_eqLit_ok : ∀ vs q o r, c_laws_eqLit vs = some (q, o, r) → q → SpecO Tryz.prog 280 vs o r := famQ_ok _
def ac_laws_eqLitS : ACode := .seq (.reg false [⟨some 4, .mov (.k (.v false [.c (.b false)])), none⟩]) (.seq (.seq (.reg false [⟨some 6, .mov (.t 0), none⟩, ⟨some 7, .len (.t 6), none⟩,
  ⟨some 8, .mov (.t 1), none⟩, ⟨some 9, .len (.t 8), none⟩, ⟨some 10, .bin .neq (.t 7) (.t 9), none⟩]) (.cond (.t 10) (.seq (.reg false [⟨some 4, .mov (.k (.v
  false [.c (.b false)])), none⟩]) .ret) .skip)) (.seq (.seq (.reg false [⟨some 5, .mov (.k (.v false [.c (.i .i64 0)])), none⟩]) (.block 0 (.loop (.seq (.seq
  (.reg false [⟨some 11, .mov (.t 5), none⟩, ⟨some 12, .mov (.t 0), none⟩, ⟨some 13, .len (.t 12), none⟩, ⟨some 14, .bin .lss (.t 11) (.t 13), none⟩]) (.cond
  (.t 14) .skip (.exit 0))) (.seq (.block 1 (.seq (.reg true [⟨some 17, .mov (.t 0), none⟩, ⟨some 18, .mov (.t 5), none⟩, ⟨some 19, .ia 10 (.t 17) (.t 18),
  none⟩, ⟨some 20, .ld true 10 (.t 19), none⟩, ⟨some 21, .mov (.t 1), none⟩, ⟨some 22, .mov (.t 5), none⟩, ⟨some 23, .ia 10 (.t 21) (.t 22), none⟩, ⟨some 24,
  .ld true 10 (.t 23), none⟩, ⟨some 25, .call 280 [.t 20, .t 24], none⟩, ⟨some 26, .not (.t 25), none⟩]) (.cond (.t 26) (.seq (.reg false [⟨some 4, .mov (.k (.v
  false [.c (.b false)])), none⟩]) .ret) .skip))) (.reg false [⟨some 15, .mov (.t 5), none⟩, ⟨some 16, .bin .add (.t 15) (.k (.v false [.c (.i .i64 1)])),
  none⟩, ⟨some 5, .mov (.t 16), none⟩])))))) (.seq (.reg false [⟨some 4, .mov (.k (.v false [.c (.b true)])), none⟩]) .ret)))
theorem hc_laws_eqLitS : Tryz.f200.body.bind (comp Tryz.prog Tryz.f200.ntmps) = some ac_laws_eqLitS := by kernel_rfl
theorem k_laws_eqLitS (a : List GLit) (b : List GLit) : SpecO Tryz.prog 200 [(false, [.sl false [.i .i64 0, .s [], .sl false [.s [], .i .i64 0, .s []] [], .i .i64 0, .s [], .i .i64 0, .s [], .s [], .i .i64 0, .s []] (a.map (GLit.cells false false))]), (false, [.sl false [.i .i64 0, .s [], .sl false [.s [], .i .i64 0, .s []] [], .i .i64 0, .s [], .i .i64 0, .s [], .s [], .i .i64 0, .s []] (b.map (GLit.cells false false))])] [] (.one (false, [.b (decide (a = b))])) := by
  refine spec_of2 false false none Tryz.func200 hc_laws_eqLitS (rvs := [.t 4]) (hΓ := mkCtx_ok (deep := false) (l := [(280, [], c_laws_eqLit)]) ⟨c_laws_eqLit_ok, trivial⟩) (h := ?_)
  intro hb hE
  simp only [go_sem] at hb
  unfold ac_laws_eqLitS
  (try refine AX_AW ?_); simp only [go_sem]; (repeat' first | apply CJ.mk | intro hc); all_goals try ((repeat' first | apply And.intro | intro hs) <;> (try simp only [go_sem, Bool.and_eq_false_iff] at hs) <;> omega)
  · symm
    rw [decide_eq_false_iff_not]
    rintro rfl
    simp at hc
  have hl : a.length = b.length := by simpa [Int.ofNat_inj] using hc
  refine aw_loop2 false [] [0, 1] [] [] (fun i : {i : Nat // i ≤ a.length ∧ a.take i = b.take i} => [(5, slV (.i .i64 i.1))]) (fun i => []) (fun i => []) (fun i => a.length - i.1) (⟨0, by simp⟩) _ rfl ?_ ?_
  · simp only [go_sem]
    all_goals first | omega | ((repeat' apply And.intro) <;> first | omega | rfl | skip)
  intro S0 hS0 i
  simp only [go_sem] at hS0
  obtain ⟨i, hi, ht⟩ := i
  (try refine AX_AW ?_); simp only [go_sem, hS0]; (repeat' first | apply CJ.mk | intro hc); all_goals try ((repeat' first | apply And.intro | intro hs) <;> (try simp only [go_sem, Bool.and_eq_false_iff] at hs) <;> omega)
  · exact (decide_eq_false (ne_of_getD default (i := i) (by simpa using hc))).symm
  · (refine lpK_n2 (⟨i + 1, by omega, take_succ_eq ht (by omega) (by omega) (d := default) (by simpa using hc)⟩) _ rfl ?_; simp only [go_sem, hS0]; first | done | ((repeat' apply And.intro) <;> first | omega | (refine w64 ?_ ?_ ?_ <;> omega) | rfl | skip))
  · exact (decide_eq_true (eq_of_take hl ht (by omega))).symm
  all_goals trace_state
noncomputable def c_laws_eqLitS : List V → Option (Prop × List (Nat × V) × R) := famQ (fun (x : (List GLit) × (List GLit)) => k_laws_eqLitS x.1 x.2)
@[go_sem] theorem c_laws_eqLitS_eq (a : List GLit) (b : List GLit) : c_laws_eqLitS [(false, [.sl false [.i .i64 0, .s [], .sl false [.s [], .i .i64 0, .s []] [], .i .i64 0, .s [], .i .i64 0, .s [], .s [], .i .i64 0, .s []] (a.map (GLit.cells false false))]), (false, [.sl false [.i .i64 0, .s [], .sl false [.s [], .i .i64 0, .s []] [], .i .i64 0, .s [], .i .i64 0, .s [], .s [], .i .i64 0, .s []] (b.map (GLit.cells false false))])] = some (True, [], .one (false, [.b (decide (a = b))])) := famQ_eq _ (by rintro ⟨_, _⟩ ⟨_, _⟩ h; simp at h; simp_all) (a, b)
theorem c_laws_eqLitS_ok : ∀ vs q o r, c_laws_eqLitS vs = some (q, o, r) → q → SpecO Tryz.prog 200 vs o r := famQ_ok _
def ac_laws_eqRule : ACode := .seq (.reg false [⟨some 2, .box 4 (.t 0), none⟩, ⟨some 3, .box 4 (.t 1), none⟩, ⟨some 4, .mov (.k (.v false [.c (.b false)])), none⟩]) (.seq (.seq (.reg false
  [⟨some 5, .fa 0 (.t 2), none⟩, ⟨some 6, .ld false 1 (.t 5), none⟩, ⟨some 7, .fa 0 (.t 3), none⟩, ⟨some 8, .ld false 1 (.t 7), none⟩, ⟨some 9, .bin .neq (.t 6)
  (.t 8), none⟩]) (.cond (.t 9) (.seq (.reg false [⟨some 4, .mov (.k (.v false [.c (.b false)])), none⟩]) .ret) .skip)) (.seq (.seq (.reg false [⟨some 10, .fa 1
  (.t 2), none⟩, ⟨some 11, .ld true 2 (.t 10), none⟩, ⟨some 12, .fa 1 (.t 3), none⟩, ⟨some 13, .ld true 2 (.t 12), none⟩, ⟨some 14, .call 199 [.t 11, .t 13],
  none⟩, ⟨some 15, .not (.t 14), none⟩]) (.cond (.t 15) (.seq (.reg false [⟨some 4, .mov (.k (.v false [.c (.b false)])), none⟩]) .ret) .skip)) (.seq (.seq
  (.reg false [⟨some 16, .fa 3 (.t 2), none⟩, ⟨some 17, .ld false 1 (.t 16), none⟩, ⟨some 18, .fa 3 (.t 3), none⟩, ⟨some 19, .ld false 1 (.t 18), none⟩, ⟨some
  20, .call 200 [.t 17, .t 19], none⟩, ⟨some 21, .not (.t 20), none⟩]) (.cond (.t 21) (.seq (.reg false [⟨some 4, .mov (.k (.v false [.c (.b false)])), none⟩])
  .ret) .skip)) (.seq (.reg false [⟨some 4, .mov (.k (.v false [.c (.b true)])), none⟩]) .ret))))
theorem hc_laws_eqRule : Tryz.f131.body.bind (comp Tryz.prog Tryz.f131.ntmps) = some ac_laws_eqRule := by kernel_rfl
theorem k_laws_eqRule (a : GRule) (b : GRule) : SpecO Tryz.prog 131 [(true, [.i .i64 a.Kind, .s a.Head.Name, .sl false [.s [], .i .i64 0, .s []] (a.Head.Args.map GTerm.cells), .sl false [.i .i64 0, .s [], .sl false [.s [], .i .i64 0, .s []] [], .i .i64 0, .s [], .i .i64 0, .s [], .s [], .i .i64 0, .s []] (a.Body.map (GLit.cells false false))]), (true, [.i .i64 b.Kind, .s b.Head.Name, .sl false [.s [], .i .i64 0, .s []] (b.Head.Args.map GTerm.cells), .sl false [.i .i64 0, .s [], .sl false [.s [], .i .i64 0, .s []] [], .i .i64 0, .s [], .i .i64 0, .s [], .s [], .i .i64 0, .s []] (b.Body.map (GLit.cells false false))])] [] (.one (false, [.b (decide (a = b))])) := by
  refine spec_of2 false false none Tryz.func131 hc_laws_eqRule (rvs := [.t 4]) (hΓ := mkCtx_ok (deep := false) (l := [(199, [], c_laws_eqAtom), (200, [], c_laws_eqLitS)]) ⟨c_laws_eqAtom_ok, c_laws_eqLitS_ok, trivial⟩) (h := ?_)
  intro hb hE
  simp only [go_sem] at hb
  unfold ac_laws_eqRule
  (try refine AX_AW ?_); simp only [go_sem]; (repeat' first | apply CJ.mk | intro hc); all_goals try ((repeat' first | apply And.intro | intro hs) <;> (try simp only [go_sem, Bool.and_eq_false_iff] at hs) <;> omega)
  all_goals (cases a; cases b; simp_all)
noncomputable def c_laws_eqRule : List V → Option (Prop × List (Nat × V) × R) := famQ (fun (x : GRule × GRule) => k_laws_eqRule x.1 x.2)
@[go_sem] theorem c_laws_eqRule_eq (a_Kind : Int) (a_Head_Name : List UInt8) (a_Head_Args : List GTerm) (a_Body : List GLit) (b_Kind : Int) (b_Head_Name : List UInt8) (b_Head_Args : List GTerm) (b_Body : List GLit) : c_laws_eqRule [(true, [.i .i64 a_Kind, .s a_Head_Name, .sl false [.s [], .i .i64 0, .s []] (a_Head_Args.map GTerm.cells), .sl false [.i .i64 0, .s [], .sl false [.s [], .i .i64 0, .s []] [], .i .i64 0, .s [], .i .i64 0, .s [], .s [], .i .i64 0, .s []] (a_Body.map (GLit.cells false false))]), (true, [.i .i64 b_Kind, .s b_Head_Name, .sl false [.s [], .i .i64 0, .s []] (b_Head_Args.map GTerm.cells), .sl false [.i .i64 0, .s [], .sl false [.s [], .i .i64 0, .s []] [], .i .i64 0, .s [], .i .i64 0, .s [], .s [], .i .i64 0, .s []] (b_Body.map (GLit.cells false false))])] = some (True, [], .one (false, [.b (decide ((GRule.mk a_Kind (GAtom.mk a_Head_Name a_Head_Args) a_Body) = (GRule.mk b_Kind (GAtom.mk b_Head_Name b_Head_Args) b_Body)))])) := famQ_eq _ (by rintro ⟨⟨_, ⟨_, _⟩, _⟩, ⟨_, ⟨_, _⟩, _⟩⟩ ⟨⟨_, ⟨_, _⟩, _⟩, ⟨_, ⟨_, _⟩, _⟩⟩ h; simp at h; simp_all) ((GRule.mk a_Kind (GAtom.mk a_Head_Name a_Head_Args) a_Body), (GRule.mk b_Kind (GAtom.mk b_Head_Name b_Head_Args) b_Body))
theorem c_laws_eqRule_ok : ∀ vs q o r, c_laws_eqRule vs = some (q, o, r) → q → SpecO Tryz.prog 131 vs o r := famQ_ok _
def ac_laws_eqRuleS : ACode := .seq (.reg false [⟨some 4, .mov (.k (.v false [.c (.b false)])), none⟩]) (.seq (.seq (.reg false [⟨some 6, .mov (.t 0), none⟩, ⟨some 7, .len (.t 6), none⟩,
  ⟨some 8, .mov (.t 1), none⟩, ⟨some 9, .len (.t 8), none⟩, ⟨some 10, .bin .neq (.t 7) (.t 9), none⟩]) (.cond (.t 10) (.seq (.reg false [⟨some 4, .mov (.k (.v
  false [.c (.b false)])), none⟩]) .ret) .skip)) (.seq (.seq (.reg false [⟨some 5, .mov (.k (.v false [.c (.i .i64 0)])), none⟩]) (.block 0 (.loop (.seq (.seq
  (.reg false [⟨some 11, .mov (.t 5), none⟩, ⟨some 12, .mov (.t 0), none⟩, ⟨some 13, .len (.t 12), none⟩, ⟨some 14, .bin .lss (.t 11) (.t 13), none⟩]) (.cond
  (.t 14) .skip (.exit 0))) (.seq (.block 1 (.seq (.reg true [⟨some 17, .mov (.t 0), none⟩, ⟨some 18, .mov (.t 5), none⟩, ⟨some 19, .ia 4 (.t 17) (.t 18),
  none⟩, ⟨some 20, .ld true 4 (.t 19), none⟩, ⟨some 21, .mov (.t 1), none⟩, ⟨some 22, .mov (.t 5), none⟩, ⟨some 23, .ia 4 (.t 21) (.t 22), none⟩, ⟨some 24, .ld
  true 4 (.t 23), none⟩, ⟨some 25, .call 131 [.t 20, .t 24], none⟩, ⟨some 26, .not (.t 25), none⟩]) (.cond (.t 26) (.seq (.reg false [⟨some 4, .mov (.k (.v
  false [.c (.b false)])), none⟩]) .ret) .skip))) (.reg false [⟨some 15, .mov (.t 5), none⟩, ⟨some 16, .bin .add (.t 15) (.k (.v false [.c (.i .i64 1)])),
  none⟩, ⟨some 5, .mov (.t 16), none⟩])))))) (.seq (.reg false [⟨some 4, .mov (.k (.v false [.c (.b true)])), none⟩]) .ret)))
theorem hc_laws_eqRuleS : Tryz.f69.body.bind (comp Tryz.prog Tryz.f69.ntmps) = some ac_laws_eqRuleS := by kernel_rfl
theorem k_laws_eqRuleS (a : List GRule) (b : List GRule) : SpecO Tryz.prog 69 [(false, [.sl false [.i .i64 0, .s [], .sl false [.s [], .i .i64 0, .s []] [], .sl false [.i .i64 0, .s [], .sl false [.s [], .i .i64 0, .s []] [], .i .i64 0, .s [], .i .i64 0, .s [], .s [], .i .i64 0, .s []] []] (a.map (GRule.cells false false))]), (false, [.sl false [.i .i64 0, .s [], .sl false [.s [], .i .i64 0, .s []] [], .sl false [.i .i64 0, .s [], .sl false [.s [], .i .i64 0, .s []] [], .i .i64 0, .s [], .i .i64 0, .s [], .s [], .i .i64 0, .s []] []] (b.map (GRule.cells false false))])] [] (.one (false, [.b (decide (a = b))])) := by
  refine spec_of2 false false none Tryz.func69 hc_laws_eqRuleS (rvs := [.t 4]) (hΓ := mkCtx_ok (deep := false) (l := [(131, [], c_laws_eqRule)]) ⟨c_laws_eqRule_ok, trivial⟩) (h := ?_)
  intro hb hE
  simp only [go_sem] at hb
  unfold ac_laws_eqRuleS
  (try refine AX_AW ?_); simp only [go_sem]; (repeat' first | apply CJ.mk | intro hc); all_goals try ((repeat' first | apply And.intro | intro hs) <;> (try simp only [go_sem, Bool.and_eq_false_iff] at hs) <;> omega)
  · symm
    rw [decide_eq_false_iff_not]
    rintro rfl
    simp at hc
  have hl : a.length = b.length := by simpa [Int.ofNat_inj] using hc
  refine aw_loop2 false [] [0, 1] [] [] (fun i : {i : Nat // i ≤ a.length ∧ a.take i = b.take i} => [(5, slV (.i .i64 i.1))]) (fun i => []) (fun i => []) (fun i => a.length - i.1) (⟨0, by simp⟩) _ rfl ?_ ?_
  · simp only [go_sem]
    all_goals first | omega | ((repeat' apply And.intro) <;> first | omega | rfl | skip)
  intro S0 hS0 i
  simp only [go_sem] at hS0
  obtain ⟨i, hi, ht⟩ := i
  (try refine AX_AW ?_); simp only [go_sem, hS0]; (repeat' first | apply CJ.mk | intro hc); all_goals try ((repeat' first | apply And.intro | intro hs) <;> (try simp only [go_sem, Bool.and_eq_false_iff] at hs) <;> omega)
  · exact (decide_eq_false (ne_of_getD default (i := i) (by simpa using hc))).symm
  · (refine lpK_n2 (⟨i + 1, by omega, take_succ_eq ht (by omega) (by omega) (d := default) (by simpa using hc)⟩) _ rfl ?_; simp only [go_sem, hS0]; first | done | ((repeat' apply And.intro) <;> first | omega | (refine w64 ?_ ?_ ?_ <;> omega) | rfl | skip))
  · exact (decide_eq_true (eq_of_take hl ht (by omega))).symm
  all_goals trace_state
noncomputable def c_laws_eqRuleS : List V → Option (Prop × List (Nat × V) × R) := famQ (fun (x : (List GRule) × (List GRule)) => k_laws_eqRuleS x.1 x.2)
@[go_sem] theorem c_laws_eqRuleS_eq (a : List GRule) (b : List GRule) : c_laws_eqRuleS [(false, [.sl false [.i .i64 0, .s [], .sl false [.s [], .i .i64 0, .s []] [], .sl false [.i .i64 0, .s [], .sl false [.s [], .i .i64 0, .s []] [], .i .i64 0, .s [], .i .i64 0, .s [], .s [], .i .i64 0, .s []] []] (a.map (GRule.cells false false))]), (false, [.sl false [.i .i64 0, .s [], .sl false [.s [], .i .i64 0, .s []] [], .sl false [.i .i64 0, .s [], .sl false [.s [], .i .i64 0, .s []] [], .i .i64 0, .s [], .i .i64 0, .s [], .s [], .i .i64 0, .s []] []] (b.map (GRule.cells false false))])] = some (True, [], .one (false, [.b (decide (a = b))])) := famQ_eq _ (by rintro ⟨_, _⟩ ⟨_, _⟩ h; simp at h; simp_all) (a, b)
theorem c_laws_eqRuleS_ok : ∀ vs q o r, c_laws_eqRuleS vs = some (q, o, r) → q → SpecO Tryz.prog 69 vs o r := famQ_ok _
def ac_laws_eqDecl : ACode := .seq (.reg false [⟨some 2, .box 3 (.t 0), none⟩, ⟨some 3, .box 3 (.t 1), none⟩, ⟨some 4, .mov (.k (.v false [.c (.b false)])), none⟩]) (.seq (.seq (.reg false
  [⟨some 5, .fa 0 (.t 2), none⟩, ⟨some 6, .ld false 1 (.t 5), none⟩, ⟨some 7, .fa 0 (.t 3), none⟩, ⟨some 8, .ld false 1 (.t 7), none⟩, ⟨some 9, .bin .neq (.t 6)
  (.t 8), none⟩]) (.cond (.t 9) (.seq (.reg false [⟨some 4, .mov (.k (.v false [.c (.b false)])), none⟩]) .ret) .skip)) (.seq (.seq (.reg false [⟨some 10, .fa 1
  (.t 2), none⟩, ⟨some 11, .ld false 1 (.t 10), none⟩, ⟨some 12, .fa 1 (.t 3), none⟩, ⟨some 13, .ld false 1 (.t 12), none⟩, ⟨some 14, .bin .neq (.t 11) (.t 13),
  none⟩]) (.cond (.t 14) (.seq (.reg false [⟨some 4, .mov (.k (.v false [.c (.b false)])), none⟩]) .ret) .skip)) (.seq (.seq (.reg false [⟨some 15, .fa 2 (.t
  2), none⟩, ⟨some 16, .ld false 1 (.t 15), none⟩, ⟨some 17, .fa 2 (.t 3), none⟩, ⟨some 18, .ld false 1 (.t 17), none⟩, ⟨some 19, .bin .neq (.t 16) (.t 18),
  none⟩]) (.cond (.t 19) (.seq (.reg false [⟨some 4, .mov (.k (.v false [.c (.b false)])), none⟩]) .ret) .skip)) (.seq (.reg false [⟨some 4, .mov (.k (.v false
  [.c (.b true)])), none⟩]) .ret))))
theorem hc_laws_eqDecl : Tryz.f130.body.bind (comp Tryz.prog Tryz.f130.ntmps) = some ac_laws_eqDecl := by kernel_rfl
theorem k_laws_eqDecl (a : GDecl) (b : GDecl) : SpecO Tryz.prog 130 [(true, [.i .i64 a.Kind, .s a.Name, .i .i64 a.Arity]), (true, [.i .i64 b.Kind, .s b.Name, .i .i64 b.Arity])] [] (.one (false, [.b (decide (a = b))])) := by
  refine spec_of2 false false none Tryz.func130 hc_laws_eqDecl (rvs := [.t 4]) (hΓ := mkCtx_ok (deep := false) (l := []) trivial) (h := ?_)
  intro hb hE
  simp only [go_sem] at hb
  unfold ac_laws_eqDecl
  (try refine AX_AW ?_); simp only [go_sem]; (repeat' first | apply CJ.mk | intro hc); all_goals try ((repeat' first | apply And.intro | intro hs) <;> (try simp only [go_sem, Bool.and_eq_false_iff] at hs) <;> omega)
  all_goals (cases a; cases b; simp_all)
noncomputable def c_laws_eqDecl : List V → Option (Prop × List (Nat × V) × R) := famQ (fun (x : GDecl × GDecl) => k_laws_eqDecl x.1 x.2)
@[go_sem] theorem c_laws_eqDecl_eq (a_Kind : Int) (a_Name : List UInt8) (a_Arity : Int) (b_Kind : Int) (b_Name : List UInt8) (b_Arity : Int) : c_laws_eqDecl [(true, [.i .i64 a_Kind, .s a_Name, .i .i64 a_Arity]), (true, [.i .i64 b_Kind, .s b_Name, .i .i64 b_Arity])] = some (True, [], .one (false, [.b (decide ((GDecl.mk a_Kind a_Name a_Arity) = (GDecl.mk b_Kind b_Name b_Arity)))])) := famQ_eq _ (by rintro ⟨⟨_, _, _⟩, ⟨_, _, _⟩⟩ ⟨⟨_, _, _⟩, ⟨_, _, _⟩⟩ h; simp at h; simp_all) ((GDecl.mk a_Kind a_Name a_Arity), (GDecl.mk b_Kind b_Name b_Arity))
theorem c_laws_eqDecl_ok : ∀ vs q o r, c_laws_eqDecl vs = some (q, o, r) → q → SpecO Tryz.prog 130 vs o r := famQ_ok _
def ac_laws_eqDeclS : ACode := .seq (.reg false [⟨some 4, .mov (.k (.v false [.c (.b false)])), none⟩]) (.seq (.seq (.reg false [⟨some 6, .mov (.t 0), none⟩, ⟨some 7, .len (.t 6), none⟩,
  ⟨some 8, .mov (.t 1), none⟩, ⟨some 9, .len (.t 8), none⟩, ⟨some 10, .bin .neq (.t 7) (.t 9), none⟩]) (.cond (.t 10) (.seq (.reg false [⟨some 4, .mov (.k (.v
  false [.c (.b false)])), none⟩]) .ret) .skip)) (.seq (.seq (.reg false [⟨some 5, .mov (.k (.v false [.c (.i .i64 0)])), none⟩]) (.block 0 (.loop (.seq (.seq
  (.reg false [⟨some 11, .mov (.t 5), none⟩, ⟨some 12, .mov (.t 0), none⟩, ⟨some 13, .len (.t 12), none⟩, ⟨some 14, .bin .lss (.t 11) (.t 13), none⟩]) (.cond
  (.t 14) .skip (.exit 0))) (.seq (.block 1 (.seq (.reg true [⟨some 17, .mov (.t 0), none⟩, ⟨some 18, .mov (.t 5), none⟩, ⟨some 19, .ia 3 (.t 17) (.t 18),
  none⟩, ⟨some 20, .ld true 3 (.t 19), none⟩, ⟨some 21, .mov (.t 1), none⟩, ⟨some 22, .mov (.t 5), none⟩, ⟨some 23, .ia 3 (.t 21) (.t 22), none⟩, ⟨some 24, .ld
  true 3 (.t 23), none⟩, ⟨some 25, .call 130 [.t 20, .t 24], none⟩, ⟨some 26, .not (.t 25), none⟩]) (.cond (.t 26) (.seq (.reg false [⟨some 4, .mov (.k (.v
  false [.c (.b false)])), none⟩]) .ret) .skip))) (.reg false [⟨some 15, .mov (.t 5), none⟩, ⟨some 16, .bin .add (.t 15) (.k (.v false [.c (.i .i64 1)])),
  none⟩, ⟨some 5, .mov (.t 16), none⟩])))))) (.seq (.reg false [⟨some 4, .mov (.k (.v false [.c (.b true)])), none⟩]) .ret)))
theorem hc_laws_eqDeclS : Tryz.f68.body.bind (comp Tryz.prog Tryz.f68.ntmps) = some ac_laws_eqDeclS := by kernel_rfl
theorem k_laws_eqDeclS (a : List GDecl) (b : List GDecl) : SpecO Tryz.prog 68 [(false, [.sl false [.i .i64 0, .s [], .i .i64 0] (a.map GDecl.cells)]), (false, [.sl false [.i .i64 0, .s [], .i .i64 0] (b.map GDecl.cells)])] [] (.one (false, [.b (decide (a = b))])) := by
  refine spec_of2 false false none Tryz.func68 hc_laws_eqDeclS (rvs := [.t 4]) (hΓ := mkCtx_ok (deep := false) (l := [(130, [], c_laws_eqDecl)]) ⟨c_laws_eqDecl_ok, trivial⟩) (h := ?_)
  intro hb hE
  simp only [go_sem] at hb
  unfold ac_laws_eqDeclS
  (try refine AX_AW ?_); simp only [go_sem]; (repeat' first | apply CJ.mk | intro hc); all_goals try ((repeat' first | apply And.intro | intro hs) <;> (try simp only [go_sem, Bool.and_eq_false_iff] at hs) <;> omega)
  · symm
    rw [decide_eq_false_iff_not]
    rintro rfl
    simp at hc
  have hl : a.length = b.length := by simpa [Int.ofNat_inj] using hc
  refine aw_loop2 false [] [0, 1] [] [] (fun i : {i : Nat // i ≤ a.length ∧ a.take i = b.take i} => [(5, slV (.i .i64 i.1))]) (fun i => []) (fun i => []) (fun i => a.length - i.1) (⟨0, by simp⟩) _ rfl ?_ ?_
  · simp only [go_sem]
    all_goals first | omega | ((repeat' apply And.intro) <;> first | omega | rfl | skip)
  intro S0 hS0 i
  simp only [go_sem] at hS0
  obtain ⟨i, hi, ht⟩ := i
  (try refine AX_AW ?_); simp only [go_sem, hS0]; (repeat' first | apply CJ.mk | intro hc); all_goals try ((repeat' first | apply And.intro | intro hs) <;> (try simp only [go_sem, Bool.and_eq_false_iff] at hs) <;> omega)
  · exact (decide_eq_false (ne_of_getD default (i := i) (by simpa using hc))).symm
  · (refine lpK_n2 (⟨i + 1, by omega, take_succ_eq ht (by omega) (by omega) (d := default) (by simpa using hc)⟩) _ rfl ?_; simp only [go_sem, hS0]; first | done | ((repeat' apply And.intro) <;> first | omega | (refine w64 ?_ ?_ ?_ <;> omega) | rfl | skip))
  · exact (decide_eq_true (eq_of_take hl ht (by omega))).symm
  all_goals trace_state
noncomputable def c_laws_eqDeclS : List V → Option (Prop × List (Nat × V) × R) := famQ (fun (x : (List GDecl) × (List GDecl)) => k_laws_eqDeclS x.1 x.2)
@[go_sem] theorem c_laws_eqDeclS_eq (a : List GDecl) (b : List GDecl) : c_laws_eqDeclS [(false, [.sl false [.i .i64 0, .s [], .i .i64 0] (a.map GDecl.cells)]), (false, [.sl false [.i .i64 0, .s [], .i .i64 0] (b.map GDecl.cells)])] = some (True, [], .one (false, [.b (decide (a = b))])) := famQ_eq _ (by rintro ⟨_, _⟩ ⟨_, _⟩ h; simp at h; simp_all) (a, b)
theorem c_laws_eqDeclS_ok : ∀ vs q o r, c_laws_eqDeclS vs = some (q, o, r) → q → SpecO Tryz.prog 68 vs o r := famQ_ok _
def ac_laws_eqProgram : ACode := .seq (.reg false [⟨some 2, .box 2 (.t 0), none⟩, ⟨some 3, .box 2 (.t 1), none⟩, ⟨some 4, .mov (.k (.v false [.c (.b false)])), none⟩]) (.seq (.seq (.reg false
  [⟨some 5, .fa 0 (.t 2), none⟩, ⟨some 6, .ld false 1 (.t 5), none⟩, ⟨some 7, .fa 0 (.t 3), none⟩, ⟨some 8, .ld false 1 (.t 7), none⟩, ⟨some 9, .call 68 [.t 6,
  .t 8], none⟩, ⟨some 10, .not (.t 9), none⟩]) (.cond (.t 10) (.seq (.reg false [⟨some 4, .mov (.k (.v false [.c (.b false)])), none⟩]) .ret) .skip)) (.seq
  (.seq (.reg false [⟨some 11, .fa 1 (.t 2), none⟩, ⟨some 12, .ld false 1 (.t 11), none⟩, ⟨some 13, .fa 1 (.t 3), none⟩, ⟨some 14, .ld false 1 (.t 13), none⟩,
  ⟨some 15, .call 69 [.t 12, .t 14], none⟩, ⟨some 16, .not (.t 15), none⟩]) (.cond (.t 16) (.seq (.reg false [⟨some 4, .mov (.k (.v false [.c (.b false)])),
  none⟩]) .ret) .skip)) (.seq (.reg false [⟨some 4, .mov (.k (.v false [.c (.b true)])), none⟩]) .ret)))
theorem hc_laws_eqProgram : Tryz.f17.body.bind (comp Tryz.prog Tryz.f17.ntmps) = some ac_laws_eqProgram := by kernel_rfl
theorem k_laws_eqProgram (a : GProgram) (b : GProgram) : SpecO Tryz.prog 17 [(true, [.sl false [.i .i64 0, .s [], .i .i64 0] (a.Decls.map GDecl.cells), .sl false [.i .i64 0, .s [], .sl false [.s [], .i .i64 0, .s []] [], .sl false [.i .i64 0, .s [], .sl false [.s [], .i .i64 0, .s []] [], .i .i64 0, .s [], .i .i64 0, .s [], .s [], .i .i64 0, .s []] []] (a.Rules.map (GRule.cells false false))]), (true, [.sl false [.i .i64 0, .s [], .i .i64 0] (b.Decls.map GDecl.cells), .sl false [.i .i64 0, .s [], .sl false [.s [], .i .i64 0, .s []] [], .sl false [.i .i64 0, .s [], .sl false [.s [], .i .i64 0, .s []] [], .i .i64 0, .s [], .i .i64 0, .s [], .s [], .i .i64 0, .s []] []] (b.Rules.map (GRule.cells false false))])] [] (.one (false, [.b (decide (a = b))])) := by
  refine spec_of2 false false none Tryz.func17 hc_laws_eqProgram (rvs := [.t 4]) (hΓ := mkCtx_ok (deep := false) (l := [(68, [], c_laws_eqDeclS), (69, [], c_laws_eqRuleS)]) ⟨c_laws_eqDeclS_ok, c_laws_eqRuleS_ok, trivial⟩) (h := ?_)
  intro hb hE
  simp only [go_sem] at hb
  unfold ac_laws_eqProgram
  (try refine AX_AW ?_); simp only [go_sem]; (repeat' first | apply CJ.mk | intro hc); all_goals try ((repeat' first | apply And.intro | intro hs) <;> (try simp only [go_sem, Bool.and_eq_false_iff] at hs) <;> omega)
  all_goals (cases a; cases b; simp_all)
noncomputable def c_laws_eqProgram : List V → Option (Prop × List (Nat × V) × R) := famQ (fun (x : GProgram × GProgram) => k_laws_eqProgram x.1 x.2)
@[go_sem] theorem c_laws_eqProgram_eq (a_Decls : List GDecl) (a_Rules : List GRule) (b_Decls : List GDecl) (b_Rules : List GRule) : c_laws_eqProgram [(true, [.sl false [.i .i64 0, .s [], .i .i64 0] (a_Decls.map GDecl.cells), .sl false [.i .i64 0, .s [], .sl false [.s [], .i .i64 0, .s []] [], .sl false [.i .i64 0, .s [], .sl false [.s [], .i .i64 0, .s []] [], .i .i64 0, .s [], .i .i64 0, .s [], .s [], .i .i64 0, .s []] []] (a_Rules.map (GRule.cells false false))]), (true, [.sl false [.i .i64 0, .s [], .i .i64 0] (b_Decls.map GDecl.cells), .sl false [.i .i64 0, .s [], .sl false [.s [], .i .i64 0, .s []] [], .sl false [.i .i64 0, .s [], .sl false [.s [], .i .i64 0, .s []] [], .i .i64 0, .s [], .i .i64 0, .s [], .s [], .i .i64 0, .s []] []] (b_Rules.map (GRule.cells false false))])] = some (True, [], .one (false, [.b (decide ((GProgram.mk a_Decls a_Rules) = (GProgram.mk b_Decls b_Rules)))])) := famQ_eq _ (by rintro ⟨⟨_, _⟩, ⟨_, _⟩⟩ ⟨⟨_, _⟩, ⟨_, _⟩⟩ h; simp at h; simp_all) ((GProgram.mk a_Decls a_Rules), (GProgram.mk b_Decls b_Rules))
theorem c_laws_eqProgram_ok : ∀ vs q o r, c_laws_eqProgram vs = some (q, o, r) → q → SpecO Tryz.prog 17 vs o r := famQ_ok _
end Go.Aw
