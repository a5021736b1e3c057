/- The first rule with a variable that no literal binds. No condition. -/
import Derived.Test.YtojlgbkikicklaaGreatzaT8
namespace Go.Aw
open Go.Proofs
attribute [local irreducible] aft blk lpK retK AW SpecO
set_option linter.unusedVariables false
set_option linter.unusedSimpArgs false
set_option maxRecDepth 100000
noncomputable def looseB (r : GRule) : Bool := decide ((0 : Int) < (looseOf r).length)
noncomputable def checkSafe (p : GProgram) : Int := bif progB p then idxL looseB p.Rules else -2
def ac_impl_CheckSafe_1 : ACode := .seq (.reg false [⟨some 1, .box 4 (.t 0), none⟩, ⟨some 2, .mov (.k (.v false [.c (.b false)])), none⟩]) (.seq (.reg false [⟨some 3, .ld true 4 (.t 1), none⟩,
  ⟨some 4, .call 75 [.t 3], none⟩, ⟨some 5, .len (.t 4), none⟩, ⟨some 6, .bin .gtr (.t 5) (.k (.v false [.c (.i .i64 0)])), none⟩, ⟨some 2, .mov (.t 6), none⟩])
  .ret)
theorem hc_impl_CheckSafe_1 : Tryz.f74.body.bind (comp Tryz.prog Tryz.f74.ntmps) = some ac_impl_CheckSafe_1 := by kernel_rfl
theorem k_impl_CheckSafe_1 (r : GRule) : SpecO Tryz.prog 74 [(true, [.i .i64 r.Kind, .s r.Head.Name, .sl false [.s [], .i .i64 0, .s []] (r.Head.Args.map GTerm.cells), .sl false [.i .i64 0, .s [], .sl false [.s [], .i .i64 0, .s []] [], .i .i64 0, .s [], .i .i64 0, .s [], .s [], .i .i64 0, .s []] (r.Body.map (GLit.cells false false))])] [] (.one (false, [.b (looseB r)])) := by
  refine spec_of2 false false none Tryz.func74 hc_impl_CheckSafe_1 (rvs := [.t 2]) (hΓ := mkCtx_ok (deep := false) (l := [(75, [], c_impl_LooseVars)]) ⟨c_impl_LooseVars_ok, trivial⟩) (h := ?_)
  intro hb hE
  simp only [go_sem] at hb
  unfold ac_impl_CheckSafe_1
  (first | refine AX_AW ?_ | skip); simp only [go_sem, reduceIte, reduceCtorEq, Nat.reduceEqDiff, Int.reduceToNat, Nat.reduceAdd, Nat.reduceLeDiff, Nat.reduceMul, Nat.reduceSub, Nat.reduceMod, Nat.reduceDiv, Nat.reduceLT, Nat.reduceBEq, List.reduceReplicate, ← and_assoc]; (repeat' first | apply CJ.mk | intro hc); all_goals try ((repeat' first | apply And.intro | intro hs) <;> (try simp only [go_sem, Bool.and_eq_false_iff] at hs) <;> omega)
  all_goals (first | rfl | trace_state)
noncomputable def c_impl_CheckSafe_1 : List V → Option (Prop × List (Nat × V) × R) := famCt (α := GRule) (fun x => [(true, [.i .i64 x.Kind, .s x.Head.Name, .sl false [.s [], .i .i64 0, .s []] (x.Head.Args.map GTerm.cells), .sl false [.i .i64 0, .s [], .sl false [.s [], .i .i64 0, .s []] [], .i .i64 0, .s [], .i .i64 0, .s [], .s [], .i .i64 0, .s []] (x.Body.map (GLit.cells false false))])]) (fun x => True) (fun x => []) (fun x => .one (false, [.b (looseB x)]))
@[go_sem] theorem c_impl_CheckSafe_1_eq (r_Kind : Int) (r_Head_Name : List UInt8) (r_Head_Args : List GTerm) (r_Body : List GLit) : c_impl_CheckSafe_1 [(true, [.i .i64 r_Kind, .s r_Head_Name, .sl false [.s [], .i .i64 0, .s []] (r_Head_Args.map GTerm.cells), .sl false [.i .i64 0, .s [], .sl false [.s [], .i .i64 0, .s []] [], .i .i64 0, .s [], .i .i64 0, .s [], .s [], .i .i64 0, .s []] (r_Body.map (GLit.cells false false))])] = some (True, [], .one (false, [.b (looseB (GRule.mk r_Kind (GAtom.mk r_Head_Name r_Head_Args) r_Body))])) := famCt_eq (by rintro ⟨_, ⟨_, _⟩, _⟩ ⟨_, ⟨_, _⟩, _⟩ h; simp only [List.cons.injEq, Prod.mk.injEq, C.i.injEq, C.s.injEq, C.b.injEq, C.sl.injEq, C.p.injEq, C.mp.injEq, C.f.injEq, true_and, and_true, GLit_map_inj, GTerm_map_inj] at h; simp_all) (GRule.mk r_Kind (GAtom.mk r_Head_Name r_Head_Args) r_Body)
theorem c_impl_CheckSafe_1_ok : ∀ vs q o r, c_impl_CheckSafe_1 vs = some (q, o, r) → q → SpecO Tryz.prog 74 vs o r := famCt_ok (fun x h => k_impl_CheckSafe_1 x)
theorem k_idxRule_ls (l : List GRule) : SpecO Tryz.prog 73 [(false, [.sl false [.i .i64 0, .s [], .sl false [.s [], .i .i64 0, .s []] [], .sl false [.i .i64 0, .s [], .sl false [.s [], .i .i64 0, .s []] [], .i .i64 0, .s [], .i .i64 0, .s [], .s [], .i .i64 0, .s []] []] (l.map (GRule.cells false false))]), (false, [.f 74 []])] [] (.one (false, [.i .i64 (idxL (fun y => looseB y) l)])) := by
  refine spec_of2 false false none Tryz.func73 hc_idxRule (rvs := [.t 4]) (hΓ := mkCtx_ok (deep := false) (l := [(74, [], c_impl_CheckSafe_1)]) ⟨c_impl_CheckSafe_1_ok, trivial⟩) (h := ?_)
  intro hb hE
  simp only [go_sem] at hb
  unfold ac_idxRule
  (first | refine AX_AW ?_ | skip); simp only [go_sem, reduceIte, reduceCtorEq, Nat.reduceEqDiff, Int.reduceToNat, Nat.reduceAdd, Nat.reduceLeDiff, Nat.reduceMul, Nat.reduceSub, Nat.reduceMod, Nat.reduceDiv, Nat.reduceLT, Nat.reduceBEq, List.reduceReplicate, ← and_assoc]; (repeat' first | apply CJ.mk | intro hc); all_goals try ((repeat' first | apply And.intro | intro hs) <;> (try simp only [go_sem, Bool.and_eq_false_iff] at hs) <;> omega)
  refine aw_loop2 false [] [0, 1, 7] [] [] (fun i : {i : Nat // i ≤ l.length ∧ (l.take i).any (fun y => looseB y) = false} => [(8, slV (.i .i64 i.1))]) (fun i => []) (fun i => []) (fun i => l.length - i.1) (⟨0, by simp⟩) _ rfl ?_ ?_
  · simp only [go_sem, reduceIte, reduceCtorEq, Nat.reduceEqDiff, Int.reduceToNat, Nat.reduceAdd, Nat.reduceLeDiff, Nat.reduceMul, Nat.reduceSub, Nat.reduceMod, Nat.reduceDiv, Nat.reduceLT, Nat.reduceBEq, List.reduceReplicate, ← and_assoc]
    all_goals first | omega | ((repeat' apply And.intro) <;> first | omega | rfl | skip)
  intro S0 hS0 i
  simp only [go_sem, reduceIte, reduceCtorEq, Nat.reduceEqDiff, Int.reduceToNat, Nat.reduceAdd, Nat.reduceLeDiff, Nat.reduceMul, Nat.reduceSub, Nat.reduceMod, Nat.reduceDiv, Nat.reduceLT, Nat.reduceBEq, List.reduceReplicate, ← and_assoc] at hS0
  obtain ⟨i, hi, ha⟩ := i
  (first | refine AX_AW ?_ | skip); simp only [go_sem, reduceIte, reduceCtorEq, Nat.reduceEqDiff, Int.reduceToNat, Nat.reduceAdd, Nat.reduceLeDiff, Nat.reduceMul, Nat.reduceSub, Nat.reduceMod, Nat.reduceDiv, Nat.reduceLT, Nat.reduceBEq, List.reduceReplicate, ← and_assoc, hS0]; (repeat' first | apply CJ.mk | intro hc); all_goals try ((repeat' first | apply And.intro | intro hs) <;> (try simp only [go_sem, Bool.and_eq_false_iff] at hs) <;> omega)
  · exact (idxL_some (p := fun y => looseB y) (d := default) (by omega) ha (by simpa [-List.getD_eq_getElem?_getD] using hc)).symm
  · (refine lpK_n2 (⟨i + 1, by omega, any_snoc (p := fun y => looseB y) default (by omega) ha (by simpa [-List.getD_eq_getElem?_getD] using hc)⟩) _ rfl ?_; simp only [go_sem, reduceIte, reduceCtorEq, Nat.reduceEqDiff, Int.reduceToNat, Nat.reduceAdd, Nat.reduceLeDiff, Nat.reduceMul, Nat.reduceSub, Nat.reduceMod, Nat.reduceDiv, Nat.reduceLT, Nat.reduceBEq, List.reduceReplicate, ← and_assoc, hS0]; first | done | ((repeat' apply And.intro) <;> first | omega | (refine w64 ?_ ?_ ?_ <;> omega) | rfl | skip))
  · exact (idxL_none (by rwa [take_all (by omega)] at ha)).symm
  all_goals trace_state
noncomputable def c_idxRule_ls : List V → Option (Prop × List (Nat × V) × R) := famCt (α := (List GRule)) (fun x => [(false, [.sl false [.i .i64 0, .s [], .sl false [.s [], .i .i64 0, .s []] [], .sl false [.i .i64 0, .s [], .sl false [.s [], .i .i64 0, .s []] [], .i .i64 0, .s [], .i .i64 0, .s [], .s [], .i .i64 0, .s []] []] (x.map (GRule.cells false false))]), (false, [.f 74 []])]) (fun x => True) (fun x => []) (fun x => .one (false, [.i .i64 (idxL (fun y => looseB y) x)]))
@[go_sem] theorem c_idxRule_ls_eq (l : List GRule) : c_idxRule_ls [(false, [.sl false [.i .i64 0, .s [], .sl false [.s [], .i .i64 0, .s []] [], .sl false [.i .i64 0, .s [], .sl false [.s [], .i .i64 0, .s []] [], .i .i64 0, .s [], .i .i64 0, .s [], .s [], .i .i64 0, .s []] []] (l.map (GRule.cells false false))]), (false, [.f 74 []])] = some (True, [], .one (false, [.i .i64 (idxL (fun y => looseB y) l)])) := famCt_eq (by intro x y h; simp only [List.cons.injEq, Prod.mk.injEq, C.i.injEq, C.s.injEq, C.b.injEq, C.sl.injEq, C.p.injEq, C.mp.injEq, C.f.injEq, true_and, and_true, GRule_map_inj] at h; simp_all) l
theorem c_idxRule_ls_ok : ∀ vs q o r, c_idxRule_ls vs = some (q, o, r) → q → SpecO Tryz.prog 73 vs o r := famCt_ok (fun x h => k_idxRule_ls x)
def ac_impl_CheckSafe : ACode := .seq (.reg false [⟨some 1, .box 2 (.t 0), none⟩, ⟨some 2, .mov (.k (.v false [.c (.i .i64 0)])), none⟩]) (.seq (.seq (.reg false [⟨some 3, .ld true 2 (.t 1),
  none⟩, ⟨some 4, .call 72 [.t 3], none⟩, ⟨some 5, .not (.t 4), none⟩]) (.cond (.t 5) (.seq (.reg false [⟨some 2, .mov (.k (.v false [.c (.i .i64 (-2))])),
  none⟩]) .ret) .skip)) (.seq (.reg false [⟨some 6, .fa 1 (.t 1), none⟩, ⟨some 7, .ld false 1 (.t 6), none⟩, ⟨some 8, .call 73 [.t 7, .k (.v false [.c (.f 74
  [])])], none⟩, ⟨some 2, .mov (.t 8), none⟩]) .ret))
theorem hc_impl_CheckSafe : Tryz.f19.body.bind (comp Tryz.prog Tryz.f19.ntmps) = some ac_impl_CheckSafe := by kernel_rfl
theorem k_impl_CheckSafe (p : GProgram) : SpecO Tryz.prog 19 [(true, [.sl false [.i .i64 0, .s [], .i .i64 0] (p.Decls.map GDecl.cells), .sl false [.i .i64 0, .s [], .sl false [.s [], .i .i64 0, .s []] [], .sl false [.i .i64 0, .s [], .sl false [.s [], .i .i64 0, .s []] [], .i .i64 0, .s [], .i .i64 0, .s [], .s [], .i .i64 0, .s []] []] (p.Rules.map (GRule.cells false false))])] [] (.one (false, [.i .i64 (checkSafe p)])) := by
  refine spec_of2 false false none Tryz.func19 hc_impl_CheckSafe (rvs := [.t 2]) (hΓ := mkCtx_ok (deep := false) (l := [(72, [], c_impl_ProgramOk), (73, [], c_idxRule_ls)]) ⟨c_impl_ProgramOk_ok, c_idxRule_ls_ok, trivial⟩) (h := ?_)
  intro hb hE
  simp only [go_sem] at hb
  unfold ac_impl_CheckSafe
  (first | refine AX_AW ?_ | skip); simp only [go_sem, reduceIte, reduceCtorEq, Nat.reduceEqDiff, Int.reduceToNat, Nat.reduceAdd, Nat.reduceLeDiff, Nat.reduceMul, Nat.reduceSub, Nat.reduceMod, Nat.reduceDiv, Nat.reduceLT, Nat.reduceBEq, List.reduceReplicate, ← and_assoc]; (repeat' first | apply CJ.mk | intro hc); all_goals try ((repeat' first | apply And.intro | intro hs) <;> (try simp only [go_sem, Bool.and_eq_false_iff] at hs) <;> omega)
  all_goals (have h9 : progB p = _ := hc; rw [checkSafe, h9]; first | rfl | trace_state)
noncomputable def c_impl_CheckSafe : List V → Option (Prop × List (Nat × V) × R) := famCt (α := GProgram) (fun x => [(true, [.sl false [.i .i64 0, .s [], .i .i64 0] (x.Decls.map GDecl.cells), .sl false [.i .i64 0, .s [], .sl false [.s [], .i .i64 0, .s []] [], .sl false [.i .i64 0, .s [], .sl false [.s [], .i .i64 0, .s []] [], .i .i64 0, .s [], .i .i64 0, .s [], .s [], .i .i64 0, .s []] []] (x.Rules.map (GRule.cells false false))])]) (fun x => True) (fun x => []) (fun x => .one (false, [.i .i64 (checkSafe x)]))
@[go_sem] theorem c_impl_CheckSafe_eq (p_Decls : List GDecl) (p_Rules : List GRule) : c_impl_CheckSafe [(true, [.sl false [.i .i64 0, .s [], .i .i64 0] (p_Decls.map GDecl.cells), .sl false [.i .i64 0, .s [], .sl false [.s [], .i .i64 0, .s []] [], .sl false [.i .i64 0, .s [], .sl false [.s [], .i .i64 0, .s []] [], .i .i64 0, .s [], .i .i64 0, .s [], .s [], .i .i64 0, .s []] []] (p_Rules.map (GRule.cells false false))])] = some (True, [], .one (false, [.i .i64 (checkSafe (GProgram.mk p_Decls p_Rules))])) := famCt_eq (by rintro ⟨_, _⟩ ⟨_, _⟩ h; simp only [List.cons.injEq, Prod.mk.injEq, C.i.injEq, C.s.injEq, C.b.injEq, C.sl.injEq, C.p.injEq, C.mp.injEq, C.f.injEq, true_and, and_true, GDecl_map_inj, GRule_map_inj] at h; simp_all) (GProgram.mk p_Decls p_Rules)
theorem c_impl_CheckSafe_ok : ∀ vs q o r, c_impl_CheckSafe vs = some (q, o, r) → q → SpecO Tryz.prog 19 vs o r := famCt_ok (fun x h => k_impl_CheckSafe x)
def ac_spec_CheckSafe : ACode := .seq (.reg false [⟨some 1, .box 2 (.t 0), none⟩, ⟨some 2, .mov (.k (.v false [.c (.i .i64 0)])), none⟩]) (.seq (.seq (.reg false [⟨some 4, .ld true 2 (.t 1),
  none⟩, ⟨some 5, .call 70 [.t 4], none⟩, ⟨some 6, .not (.t 5), none⟩]) (.cond (.t 6) (.seq (.reg false [⟨some 2, .mov (.k (.v false [.c (.i .i64 (-2))])),
  none⟩]) .ret) .skip)) (.seq (.seq (.reg false [⟨some 7, .fa 1 (.t 1), none⟩, ⟨some 8, .ld false 1 (.t 7), none⟩, ⟨some 9, .len (.t 8), none⟩, ⟨some 10, .mov
  (.k (.v false [.c (.i .i64 0)])), none⟩]) (.block 0 (.loop (.seq (.reg false [⟨some 11, .bin .lss (.t 10) (.t 9), none⟩]) (.seq (.cond (.t 11) .skip (.exit
  0)) (.seq (.block 1 (.seq (.reg false [⟨some 12, .mov (.t 10), none⟩, ⟨some 3, .mov (.t 12), none⟩]) (.seq (.reg false [⟨some 13, .fa 1 (.t 1), none⟩, ⟨some
  14, .ld false 1 (.t 13), none⟩, ⟨some 15, .mov (.t 3), none⟩, ⟨some 16, .ia 4 (.t 14) (.t 15), none⟩, ⟨some 17, .ld true 4 (.t 16), none⟩, ⟨some 18, .call 71
  [.t 17], none⟩, ⟨some 19, .len (.t 18), none⟩, ⟨some 20, .bin .gtr (.t 19) (.k (.v false [.c (.i .i64 0)])), none⟩]) (.cond (.t 20) (.seq (.reg false [⟨some
  21, .mov (.t 3), none⟩, ⟨some 2, .mov (.t 21), none⟩]) .ret) .skip)))) (.reg false [⟨some 22, .bin .add (.t 10) (.k (.v false [.c (.i .i64 1)])), none⟩, ⟨some
  10, .mov (.t 22), none⟩]))))))) (.seq (.reg false [⟨some 2, .mov (.k (.v false [.c (.i .i64 (-1))])), none⟩]) .ret)))
theorem hc_spec_CheckSafe : Tryz.f18.body.bind (comp Tryz.prog Tryz.f18.ntmps) = some ac_spec_CheckSafe := by kernel_rfl
theorem k_spec_CheckSafe (p : GProgram) : SpecO Tryz.prog 18 [(true, [.sl false [.i .i64 0, .s [], .i .i64 0] (p.Decls.map GDecl.cells), .sl false [.i .i64 0, .s [], .sl false [.s [], .i .i64 0, .s []] [], .sl false [.i .i64 0, .s [], .sl false [.s [], .i .i64 0, .s []] [], .i .i64 0, .s [], .i .i64 0, .s [], .s [], .i .i64 0, .s []] []] (p.Rules.map (GRule.cells false false))])] [] (.one (false, [.i .i64 (checkSafe p)])) := by
  refine spec_of2 false false none Tryz.func18 hc_spec_CheckSafe (rvs := [.t 2]) (hΓ := mkCtx_ok (deep := false) (l := [(70, [], c_spec_ProgramOk), (71, [], c_spec_LooseVars)]) ⟨c_spec_ProgramOk_ok, c_spec_LooseVars_ok, trivial⟩) (h := ?_)
  intro hb hE
  simp only [go_sem] at hb
  unfold ac_spec_CheckSafe
  (first | refine AX_AW ?_ | skip); simp only [go_sem, reduceIte, reduceCtorEq, Nat.reduceEqDiff, Int.reduceToNat, Nat.reduceAdd, Nat.reduceLeDiff, Nat.reduceMul, Nat.reduceSub, Nat.reduceMod, Nat.reduceDiv, Nat.reduceLT, Nat.reduceBEq, List.reduceReplicate, ← and_assoc]; (repeat' first | apply CJ.mk | intro hc); all_goals try ((repeat' first | apply And.intro | intro hs) <;> (try simp only [go_sem, Bool.and_eq_false_iff] at hs) <;> omega)
  · rw [checkSafe, hc]; rfl
  have hB : progB p = true := hc
  clear hc
  refine aw_loop2 false [] [1, 9] [2] [] (fun i : {i : Nat // i ≤ p.Rules.length ∧ (p.Rules.take i).any looseB = false} => [(10, slV (.i .i64 i.1))]) (fun i => []) (fun i => []) (fun i => p.Rules.length - i.1) (⟨0, by simp⟩) _ rfl ?_ ?_
  · simp only [go_sem, reduceIte, reduceCtorEq, Nat.reduceEqDiff, Int.reduceToNat, Nat.reduceAdd, Nat.reduceLeDiff, Nat.reduceMul, Nat.reduceSub, Nat.reduceMod, Nat.reduceDiv, Nat.reduceLT, Nat.reduceBEq, List.reduceReplicate, ← and_assoc]
    all_goals first | omega | ((repeat' apply And.intro) <;> first | omega | rfl | skip)
  intro S0 hS0 i
  simp only [go_sem, reduceIte, reduceCtorEq, Nat.reduceEqDiff, Int.reduceToNat, Nat.reduceAdd, Nat.reduceLeDiff, Nat.reduceMul, Nat.reduceSub, Nat.reduceMod, Nat.reduceDiv, Nat.reduceLT, Nat.reduceBEq, List.reduceReplicate, ← and_assoc] at hS0
  obtain ⟨i, hi, ha⟩ := i
  (first | refine AX_AW ?_ | skip); simp only [go_sem, reduceIte, reduceCtorEq, Nat.reduceEqDiff, Int.reduceToNat, Nat.reduceAdd, Nat.reduceLeDiff, Nat.reduceMul, Nat.reduceSub, Nat.reduceMod, Nat.reduceDiv, Nat.reduceLT, Nat.reduceBEq, List.reduceReplicate, ← and_assoc, hS0]; (repeat' first | apply CJ.mk | intro hc); all_goals try ((repeat' first | apply And.intro | intro hs) <;> (try simp only [go_sem, Bool.and_eq_false_iff] at hs) <;> omega)
  · rw [checkSafe, hB, cond_true, idxL_some (p := looseB) (d := default) (i := i) (by omega) ha (decide_eq_true hc)]
  · (refine lpK_n2 (⟨i + 1, by omega, any_snoc (p := looseB) default (by omega) ha (decide_eq_false hc)⟩) _ rfl ?_; simp only [go_sem, reduceIte, reduceCtorEq, Nat.reduceEqDiff, Int.reduceToNat, Nat.reduceAdd, Nat.reduceLeDiff, Nat.reduceMul, Nat.reduceSub, Nat.reduceMod, Nat.reduceDiv, Nat.reduceLT, Nat.reduceBEq, List.reduceReplicate, ← and_assoc, hS0]; first | done | ((repeat' apply And.intro) <;> first | omega | (refine w64 ?_ ?_ ?_ <;> omega) | rfl | skip))
  · rw [checkSafe, hB, cond_true, idxL_none (by rwa [take_all (by omega)] at ha)]
noncomputable def c_spec_CheckSafe : List V → Option (Prop × List (Nat × V) × R) := famCt (α := GProgram) (fun x => [(true, [.sl false [.i .i64 0, .s [], .i .i64 0] (x.Decls.map GDecl.cells), .sl false [.i .i64 0, .s [], .sl false [.s [], .i .i64 0, .s []] [], .sl false [.i .i64 0, .s [], .sl false [.s [], .i .i64 0, .s []] [], .i .i64 0, .s [], .i .i64 0, .s [], .s [], .i .i64 0, .s []] []] (x.Rules.map (GRule.cells false false))])]) (fun x => True) (fun x => []) (fun x => .one (false, [.i .i64 (checkSafe x)]))
@[go_sem] theorem c_spec_CheckSafe_eq (p_Decls : List GDecl) (p_Rules : List GRule) : c_spec_CheckSafe [(true, [.sl false [.i .i64 0, .s [], .i .i64 0] (p_Decls.map GDecl.cells), .sl false [.i .i64 0, .s [], .sl false [.s [], .i .i64 0, .s []] [], .sl false [.i .i64 0, .s [], .sl false [.s [], .i .i64 0, .s []] [], .i .i64 0, .s [], .i .i64 0, .s [], .s [], .i .i64 0, .s []] []] (p_Rules.map (GRule.cells false false))])] = some (True, [], .one (false, [.i .i64 (checkSafe (GProgram.mk p_Decls p_Rules))])) := famCt_eq (by rintro ⟨_, _⟩ ⟨_, _⟩ h; simp only [List.cons.injEq, Prod.mk.injEq, C.i.injEq, C.s.injEq, C.b.injEq, C.sl.injEq, C.p.injEq, C.mp.injEq, C.f.injEq, true_and, and_true, GDecl_map_inj, GRule_map_inj] at h; simp_all) (GProgram.mk p_Decls p_Rules)
theorem c_spec_CheckSafe_ok : ∀ vs q o r, c_spec_CheckSafe vs = some (q, o, r) → q → SpecO Tryz.prog 18 vs o r := famCt_ok (fun x h => k_spec_CheckSafe x)
end Go.Aw
