/- The first rule with a variable that no literal binds. No condition. -/
import Derived.Test.YthlbadfickhkfaaGreatzbT8
namespace Go.Aw
open Go.Proofs
attribute [local irreducible] aft blk lpK retK AW SpecO
set_option linter.unusedVariables false
set_option linter.unusedSimpArgs false
set_option maxRecDepth 100000
noncomputable def looseB (r : GRule) : Bool := decide ((0 : Int) < (looseOf r).length)
noncomputable def checkSafe (p : GProgram) : Int := bif progB p then idxL looseB p.Rules else -2
def ac_impl_CheckSafe_1 : ACode := q' ([o' 1 (.box 4 (.t 0)), b' 2 false]) (q' ([e' 3 4 1, c' 4 118 [3], n' 5 4, o' 6 (.bin .gtr (.t 5) (k' 0)), m' 2 6]) .ret)
theorem hc_impl_CheckSafe_1 : Tryz.f151.body.bind (comp Tryz.prog Tryz.f151.ntmps) = some ac_impl_CheckSafe_1 := by kernel_rfl
theorem k_impl_CheckSafe_1 (r : GRule) : SpecO Tryz.prog 151 [(true, [.i .i64 r.Kind, .s r.Head.Name, .sl false [.s [], .i .i64 0, .s []] (r.Head.Args.map GTerm.cells), .sl false [.i .i64 0, .s [], .sl false [.s [], .i .i64 0, .s []] [], .i .i64 0, .s [], .i .i64 0, .s [], .s [], .i .i64 0, .s []] (r.Body.map (GLit.cells false false))])] [] (.one (false, [.b (looseB r)])) := by
  refine spec_of2 false false none Tryz.func151 hc_impl_CheckSafe_1 (rvs := [.t 2]) (hΓ := mkCtx_ok (deep := false) (l := [(118, [], c_impl_LooseVars)]) ⟨c_impl_LooseVars_ok, trivial⟩) (h := ?_)
  intro hb hE
  simp only [go_sem] at hb
  dsimp only [ac_impl_CheckSafe_1, List.map_cons, List.map_nil, m', f', l', e', n', z', b', a', r', s', i', w', c', o', k', g', q']
  (try refine AX_AW ?_); simp only [go_sem]; (repeat' first | apply CJ.mk | intro hc); all_goals try ((repeat' first | apply And.intro | intro hs) <;> (try simp only [go_sem, Bool.and_eq_false_iff] at hs) <;> omega)
  all_goals (first | rfl | trace_state)
noncomputable def c_impl_CheckSafe_1 : List V → Option (Prop × List (Nat × V) × R) := famQ (fun (x : GRule) => k_impl_CheckSafe_1 x)
@[go_sem] theorem c_impl_CheckSafe_1_eq (r_Kind : Int) (r_Head_Name : List UInt8) (r_Head_Args : List GTerm) (r_Body : List GLit) : c_impl_CheckSafe_1 [(true, [.i .i64 r_Kind, .s r_Head_Name, .sl false [.s [], .i .i64 0, .s []] (r_Head_Args.map GTerm.cells), .sl false [.i .i64 0, .s [], .sl false [.s [], .i .i64 0, .s []] [], .i .i64 0, .s [], .i .i64 0, .s [], .s [], .i .i64 0, .s []] (r_Body.map (GLit.cells false false))])] = some (True, [], .one (false, [.b (looseB (GRule.mk r_Kind (GAtom.mk r_Head_Name r_Head_Args) r_Body))])) := famQ_eq _ (by rintro ⟨_, ⟨_, _⟩, _⟩ ⟨_, ⟨_, _⟩, _⟩ h; simp at h; simp_all) (GRule.mk r_Kind (GAtom.mk r_Head_Name r_Head_Args) r_Body)
theorem c_impl_CheckSafe_1_ok : ∀ vs q o r, c_impl_CheckSafe_1 vs = some (q, o, r) → q → SpecO Tryz.prog 151 vs o r := famQ_ok _
theorem k_idxRule_ls (l : List GRule) : SpecO Tryz.prog 89 [(false, [.sl false [.i .i64 0, .s [], .sl false [.s [], .i .i64 0, .s []] [], .sl false [.i .i64 0, .s [], .sl false [.s [], .i .i64 0, .s []] [], .i .i64 0, .s [], .i .i64 0, .s [], .s [], .i .i64 0, .s []] []] (l.map (GRule.cells false false))]), (false, [.f 151 []])] [] (.one (false, [.i .i64 (idxL (fun y => looseB y) l)])) := by
  refine spec_of2 false false none Tryz.func89 hc_idxRule (rvs := [.t 4]) (hΓ := mkCtx_ok (deep := false) (l := [(151, [], c_impl_CheckSafe_1)]) ⟨c_impl_CheckSafe_1_ok, trivial⟩) (h := ?_)
  intro hb hE
  simp only [go_sem] at hb
  dsimp only [ac_idxRule, List.map_cons, List.map_nil, m', f', l', e', n', z', b', a', r', s', i', w', c', o', k', g', q']
  (try refine AX_AW ?_); simp only [go_sem]; (repeat' first | apply CJ.mk | intro hc); all_goals try ((repeat' first | apply And.intro | intro hs) <;> (try simp only [go_sem, Bool.and_eq_false_iff] at hs) <;> omega)
  refine aw_loop2 false [] [0, 1, 7] [] [] (fun i : {i : Nat // i ≤ l.length ∧ (l.take i).any (fun y => looseB y) = false} => [(8, slV (.i .i64 i.1))]) (fun i => []) (fun i => []) (fun i => l.length - i.1) (⟨0, by simp⟩) _ rfl ?_ ?_
  · simp only [go_sem]
    all_goals first | omega | ((repeat' apply And.intro) <;> first | omega | rfl | skip)
  intro S0 hS0 i
  simp only [go_sem] at hS0
  obtain ⟨i, hi, ha⟩ := i
  (try refine AX_AW ?_); simp only [go_sem, hS0]; (repeat' first | apply CJ.mk | intro hc); all_goals try ((repeat' first | apply And.intro | intro hs) <;> (try simp only [go_sem, Bool.and_eq_false_iff] at hs) <;> omega)
  · exact (idxL_some (p := fun y => looseB y) (d := default) (by omega) ha (by simpa [-List.getD_eq_getElem?_getD] using hc)).symm
  · (refine lpK_n2 (⟨i + 1, by omega, any_snoc (p := fun y => looseB y) default (by omega) ha (by simpa [-List.getD_eq_getElem?_getD] using hc)⟩) _ rfl ?_; simp only [go_sem, hS0]; first | done | ((repeat' apply And.intro) <;> first | omega | (refine w64 ?_ ?_ ?_ <;> omega) | rfl | skip))
  · exact (idxL_none (by rwa [take_all (by omega)] at ha)).symm
  all_goals trace_state
noncomputable def c_idxRule_ls : List V → Option (Prop × List (Nat × V) × R) := famQ (fun (x : (List GRule)) => k_idxRule_ls x)
@[go_sem] theorem c_idxRule_ls_eq (l : List GRule) : c_idxRule_ls [(false, [.sl false [.i .i64 0, .s [], .sl false [.s [], .i .i64 0, .s []] [], .sl false [.i .i64 0, .s [], .sl false [.s [], .i .i64 0, .s []] [], .i .i64 0, .s [], .i .i64 0, .s [], .s [], .i .i64 0, .s []] []] (l.map (GRule.cells false false))]), (false, [.f 151 []])] = some (True, [], .one (false, [.i .i64 (idxL (fun y => looseB y) l)])) := famQ_eq _ (by intro x y h; simp at h; simp_all) l
theorem c_idxRule_ls_ok : ∀ vs q o r, c_idxRule_ls vs = some (q, o, r) → q → SpecO Tryz.prog 89 vs o r := famQ_ok _
def ac_impl_CheckSafe : ACode := q' ([o' 1 (.box 2 (.t 0)), z' 2 0]) (.seq (q' ([e' 3 2 1, c' 4 150 [3], o' 5 (.not (.t 4))]) (.cond (.t 5) (q' ([o' 2 (.mov (.k (.v false [.c (.i .i64
  (-2))])))]) .ret) .skip)) (q' ([f' 6 1 1, l' 7 6, o' 8 (.call 89 [.t 7, .k (.v false [.c (.f 151 [])])]), m' 2 8]) .ret))
theorem hc_impl_CheckSafe : Tryz.f87.body.bind (comp Tryz.prog Tryz.f87.ntmps) = some ac_impl_CheckSafe := by kernel_rfl
theorem k_impl_CheckSafe (p : GProgram) : SpecO Tryz.prog 87 [(true, [.sl false [.i .i64 0, .s [], .i .i64 0] (p.Decls.map GDecl.cells), .sl false [.i .i64 0, .s [], .sl false [.s [], .i .i64 0, .s []] [], .sl false [.i .i64 0, .s [], .sl false [.s [], .i .i64 0, .s []] [], .i .i64 0, .s [], .i .i64 0, .s [], .s [], .i .i64 0, .s []] []] (p.Rules.map (GRule.cells false false))])] [] (.one (false, [.i .i64 (checkSafe p)])) := by
  refine spec_of2 false false none Tryz.func87 hc_impl_CheckSafe (rvs := [.t 2]) (hΓ := mkCtx_ok (deep := false) (l := [(150, [], c_impl_ProgramOk), (89, [], c_idxRule_ls)]) ⟨c_impl_ProgramOk_ok, c_idxRule_ls_ok, trivial⟩) (h := ?_)
  intro hb hE
  simp only [go_sem] at hb
  dsimp only [ac_impl_CheckSafe, List.map_cons, List.map_nil, m', f', l', e', n', z', b', a', r', s', i', w', c', o', k', g', q']
  (try refine AX_AW ?_); simp only [go_sem]; (repeat' first | apply CJ.mk | intro hc); all_goals try ((repeat' first | apply And.intro | intro hs) <;> (try simp only [go_sem, Bool.and_eq_false_iff] at hs) <;> omega)
  all_goals (have h9 : progB p = _ := hc; rw [checkSafe, h9]; first | rfl | trace_state)
noncomputable def c_impl_CheckSafe : List V → Option (Prop × List (Nat × V) × R) := famQ (fun (x : GProgram) => k_impl_CheckSafe x)
@[go_sem] theorem c_impl_CheckSafe_eq (p_Decls : List GDecl) (p_Rules : List GRule) : c_impl_CheckSafe [(true, [.sl false [.i .i64 0, .s [], .i .i64 0] (p_Decls.map GDecl.cells), .sl false [.i .i64 0, .s [], .sl false [.s [], .i .i64 0, .s []] [], .sl false [.i .i64 0, .s [], .sl false [.s [], .i .i64 0, .s []] [], .i .i64 0, .s [], .i .i64 0, .s [], .s [], .i .i64 0, .s []] []] (p_Rules.map (GRule.cells false false))])] = some (True, [], .one (false, [.i .i64 (checkSafe (GProgram.mk p_Decls p_Rules))])) := famQ_eq _ (by rintro ⟨_, _⟩ ⟨_, _⟩ h; simp at h; simp_all) (GProgram.mk p_Decls p_Rules)
theorem c_impl_CheckSafe_ok : ∀ vs q o r, c_impl_CheckSafe vs = some (q, o, r) → q → SpecO Tryz.prog 87 vs o r := famQ_ok _
def ac_spec_CheckSafe : ACode := q' ([o' 1 (.box 2 (.t 0)), z' 2 0]) (.seq (q' ([e' 4 2 1, c' 5 134 [4], o' 6 (.not (.t 5))]) (.cond (.t 6) (q' ([o' 2 (.mov (.k (.v false [.c (.i .i64
  (-2))])))]) .ret) .skip)) (.seq (q' ([f' 7 1 1, l' 8 7, n' 9 8, z' 10 0]) (.block 0 (.loop (q' ([r' 11 10 9]) (.seq (.cond (.t 11) .skip (.exit 0)) (.seq
  (.block 1 (q' ([m' 12 10, m' 3 12]) (q' ([f' 13 1 1, l' 14 13, m' 15 3, i' 16 4 14 15, e' 17 4 16, c' 18 113 [17], n' 19 18, o' 20 (.bin .gtr (.t 19) (k'
  0))]) (.cond (.t 20) (q' ([m' 21 3, m' 2 21]) .ret) .skip)))) (g' [a' 22 10, m' 10 22]))))))) (q' ([o' 2 (.mov (.k (.v false [.c (.i .i64 (-1))])))]) .ret)))
theorem hc_spec_CheckSafe : Tryz.f86.body.bind (comp Tryz.prog Tryz.f86.ntmps) = some ac_spec_CheckSafe := by kernel_rfl
theorem k_spec_CheckSafe (p : GProgram) : SpecO Tryz.prog 86 [(true, [.sl false [.i .i64 0, .s [], .i .i64 0] (p.Decls.map GDecl.cells), .sl false [.i .i64 0, .s [], .sl false [.s [], .i .i64 0, .s []] [], .sl false [.i .i64 0, .s [], .sl false [.s [], .i .i64 0, .s []] [], .i .i64 0, .s [], .i .i64 0, .s [], .s [], .i .i64 0, .s []] []] (p.Rules.map (GRule.cells false false))])] [] (.one (false, [.i .i64 (checkSafe p)])) := by
  refine spec_of2 false false none Tryz.func86 hc_spec_CheckSafe (rvs := [.t 2]) (hΓ := mkCtx_ok (deep := false) (l := [(134, [], c_spec_ProgramOk), (113, [], c_spec_LooseVars)]) ⟨c_spec_ProgramOk_ok, c_spec_LooseVars_ok, trivial⟩) (h := ?_)
  intro hb hE
  simp only [go_sem] at hb
  dsimp only [ac_spec_CheckSafe, List.map_cons, List.map_nil, m', f', l', e', n', z', b', a', r', s', i', w', c', o', k', g', q']
  (try refine AX_AW ?_); simp only [go_sem]; (repeat' first | apply CJ.mk | intro hc); all_goals try ((repeat' first | apply And.intro | intro hs) <;> (try simp only [go_sem, Bool.and_eq_false_iff] at hs) <;> omega)
  · rw [checkSafe, hc]; rfl
  have hB : progB p = true := hc
  clear hc
  refine aw_loop2 false [] [1, 9] [2] [] (fun i : {i : Nat // i ≤ p.Rules.length ∧ (p.Rules.take i).any looseB = false} => [(10, slV (.i .i64 i.1))]) (fun i => []) (fun i => []) (fun i => p.Rules.length - i.1) (⟨0, by simp⟩) _ rfl ?_ ?_
  · simp only [go_sem]
    all_goals first | omega | ((repeat' apply And.intro) <;> first | omega | rfl | skip)
  intro S0 hS0 i
  simp only [go_sem] at hS0
  obtain ⟨i, hi, ha⟩ := i
  (try refine AX_AW ?_); simp only [go_sem, hS0]; (repeat' first | apply CJ.mk | intro hc); all_goals try ((repeat' first | apply And.intro | intro hs) <;> (try simp only [go_sem, Bool.and_eq_false_iff] at hs) <;> omega)
  · rw [checkSafe, hB, cond_true, idxL_some (p := looseB) (d := default) (i := i) (by omega) ha (decide_eq_true hc)]
  · (refine lpK_n2 (⟨i + 1, by omega, any_snoc (p := looseB) default (by omega) ha (decide_eq_false hc)⟩) _ rfl ?_; simp only [go_sem, hS0]; first | done | ((repeat' apply And.intro) <;> first | omega | (refine w64 ?_ ?_ ?_ <;> omega) | rfl | skip))
  · rw [checkSafe, hB, cond_true, idxL_none (by rwa [take_all (by omega)] at ha)]
noncomputable def c_spec_CheckSafe : List V → Option (Prop × List (Nat × V) × R) := famQ (fun (x : GProgram) => k_spec_CheckSafe x)
@[go_sem] theorem c_spec_CheckSafe_eq (p_Decls : List GDecl) (p_Rules : List GRule) : c_spec_CheckSafe [(true, [.sl false [.i .i64 0, .s [], .i .i64 0] (p_Decls.map GDecl.cells), .sl false [.i .i64 0, .s [], .sl false [.s [], .i .i64 0, .s []] [], .sl false [.i .i64 0, .s [], .sl false [.s [], .i .i64 0, .s []] [], .i .i64 0, .s [], .i .i64 0, .s [], .s [], .i .i64 0, .s []] []] (p_Rules.map (GRule.cells false false))])] = some (True, [], .one (false, [.i .i64 (checkSafe (GProgram.mk p_Decls p_Rules))])) := famQ_eq _ (by rintro ⟨_, _⟩ ⟨_, _⟩ h; simp at h; simp_all) (GProgram.mk p_Decls p_Rules)
theorem c_spec_CheckSafe_ok : ∀ vs q o r, c_spec_CheckSafe vs = some (q, o, r) → q → SpecO Tryz.prog 86 vs o r := famQ_ok _
end Go.Aw
