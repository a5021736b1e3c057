/- Variables that no literal binds. No condition. -/
import Derived.Test.YthlbadfickhkfaaGreatzbT7
import Derived.Test.YthlbadfickhkfaaGreatgBx7zb
namespace Go.Aw
open Go.Proofs Go.Shelf Go.RowKit
attribute [local irreducible] aft blk lpK retK AW SpecO
set_option linter.unusedVariables false
set_option linter.unusedSimpArgs false
set_option maxRecDepth 100000
def termsL (l : GLit) : List GTerm := bif l.Kind == 3 then [l.A, l.B] else l.Atom.Args
def termsR (r : GRule) : List GTerm := r.Head.Args ++ r.Body.flatMap termsL
def varsR (r : GRule) : List (List UInt8) := putsS sLt [] (varL r.Head.Args ++ allV r)
theorem varL_app (a b : List GTerm) : varL (a ++ b) = varL a ++ varL b := by simp [varL]
theorem varL_terms {l : GLit} (h : litB l = true) : varL (termsL l) = varL l.Atom.Args ++ varL [l.A, l.B] := by
  rw [litB] at h
  rw [termsL]
  cases hk : (l.Kind == 3) with
  | true =>
    rw [hk] at h
    simp only [cond_true, Bool.and_eq_true, beq_iff_eq] at h ⊢
    have : l.Atom.Args = [] := List.length_eq_zero_iff.1 (by omega)
    rw [this]; rfl
  | false =>
    rw [hk] at h
    simp only [cond_false, Bool.and_eq_true, termZ, beq_iff_eq] at h ⊢
    have h1 : hasV l.A = false := by simp [hasV, h.1.2.1]
    have h2 : hasV l.B = false := by simp [hasV, h.2.1]
    simp [varL, h1, h2]
theorem varL_body : ∀ {b : List GLit}, (∀ l ∈ b, litB l = true) → varL (b.flatMap termsL) = b.flatMap fun l => varL l.Atom.Args ++ varL [l.A, l.B]
  | [], _ => rfl
  | l :: b, h => by
    rw [List.flatMap_cons, List.flatMap_cons, varL_app, varL_terms (h l (by simp)), varL_body fun x hx => h x (by simp [hx])]
theorem ruleB_lits {r : GRule} (h : ruleB r = true) : ∀ l ∈ r.Body, litB l = true := by
  simp only [ruleB, Bool.and_eq_true, List.all_eq_true] at h
  exact h.2
theorem varsR_eq {r : GRule} (h : ruleB r = true) : varsB (termsR r) = varsR r := by
  rw [varsB, termsR, varL_app, varL_body (ruleB_lits h), varsR, allV]
theorem termsL_len {l : GLit} (h : litB l = true) : (termsL l).length ≤ 6 := by
  rw [litB] at h
  rw [termsL]
  cases hk : (l.Kind == 3) with
  | true => simp
  | false =>
    rw [hk] at h
    simp only [cond_false, Bool.and_eq_true, decide_eq_true_eq, atomB] at h ⊢
    omega
theorem terms_len : ∀ {b : List GLit}, (∀ l ∈ b, litB l = true) → (b.flatMap termsL).length ≤ 6 * b.length
  | [], _ => by simp
  | l :: b, h => by
    have h1 := termsL_len (h l (by simp))
    have h2 := terms_len (b := b) fun x hx => h x (by simp [hx])
    simp only [List.flatMap_cons, List.length_append, List.length_cons]
    omega
theorem head_len {r : GRule} (h : ruleB r = true) : r.Head.Args.length ≤ 6 ∧ r.Body.length ≤ 8 := by
  simp only [ruleB, Bool.and_eq_true, decide_eq_true_eq, atomB] at h
  omega
noncomputable def looseL (r : GRule) : List (List UInt8) := (varsR r).filter fun v => !(boundL r).contains v
noncomputable def looseOf (r : GRule) : List (List UInt8) := bif ruleB r then looseL r else []
theorem varsR_len {r : GRule} (h : ruleB r = true) : (varsR r).length ≤ 128 := by
  have h1 := puts_len sLt (varL r.Head.Args ++ allV r) []
  have h2 := varL_len r.Head.Args
  have h3 := allV_len h
  have h4 := head_len h
  simp only [List.length_append, List.length_nil] at h1
  rw [varsR]; omega
theorem loose_len (r : GRule) : (looseOf r).length ≤ 128 := by
  rw [looseOf]
  cases h : ruleB r with
  | true => exact Nat.le_trans (List.length_filter_le _ _) (varsR_len h)
  | false => exact Nat.zero_le _
theorem k_cloneTerm (l : List GTerm) (hpre : l.length < 1099511627776) : SpecO Tryz.prog 276 [(false, [.sl false [.s [], .i .i64 0, .s []] (l.map GTerm.cells)])] [] (.one (false, [.sl true [.s [], .i .i64 0, .s []] (l.map GTerm.cells)])) := by
  exact clone_out (d := [.s [], .i .i64 0, .s []]) Tryz.cloneTerm (by kernel_rfl) (hi := rfl) (hz0 := rfl) (hz1 := rfl) (bytes := 40) (hz2 := rfl) (hzs := rfl) (by decide) (fun w => rfl) _ (by rw [List.length_map]; omega)
noncomputable def c_cloneTerm : List V → Option (Prop × List (Nat × V) × R) := famP (fun (x : (List GTerm)) h => k_cloneTerm x h)
@[go_sem] theorem c_cloneTerm_eq (l : List GTerm) : c_cloneTerm [(false, [.sl false [.s [], .i .i64 0, .s []] (l.map GTerm.cells)])] = some (l.length < 1099511627776, [], .one (false, [.sl true [.s [], .i .i64 0, .s []] (l.map GTerm.cells)])) := famP_eq _ (by intro x y h; simp at h; simp_all) l
theorem c_cloneTerm_ok : ∀ vs q o r, c_cloneTerm vs = some (q, o, r) → q → SpecO Tryz.prog 276 vs o r := famP_ok _
def ac_impl_termsOf : ACode := q' ([o' 1 (.box 10 (.t 0)), o' 2 (.mov (.k (.v false [.nl [.s [], .i .i64 0, .s []]])))]) (.seq (q' ([f' 3 0 1, l' 4 3, o' 5 (.bin .eql (.t 4) (k' 3))]) (.cond
  (.t 5) (q' ([f' 6 4 1, e' 7 3 6, f' 8 7 1, e' 9 3 8, o' 10 (.bsl 3 2 [.s, .i .i64, .s] [(0, .t 7), (1, .t 9)]), m' 2 10]) .ret) .skip)) (q' ([f' 11 1 1, f' 12
  1 11, l' 13 12, m' 2 13]) .ret))
theorem hc_impl_termsOf : Tryz.f277.body.bind (comp Tryz.prog Tryz.f277.ntmps) = some ac_impl_termsOf := by kernel_rfl
theorem k_impl_termsOf (l : GLit) : SpecO Tryz.prog 277 [(true, [.i .i64 l.Kind, .s l.Atom.Name, .sl false [.s [], .i .i64 0, .s []] (l.Atom.Args.map GTerm.cells), .i .i64 l.Op, .s l.A.Var, .i .i64 l.A.Val.N, .s l.A.Val.S, .s l.B.Var, .i .i64 l.B.Val.N, .s l.B.Val.S])] [] (.one (false, [.sl false [.s [], .i .i64 0, .s []] ((termsL l).map GTerm.cells)])) := by
  refine spec_of2 false true none Tryz.func277 hc_impl_termsOf (rvs := [.t 2]) (hΓ := mkCtx_ok (deep := false) (l := []) trivial) (h := ?_)
  intro hb hE
  simp only [go_sem] at hb
  dsimp only [ac_impl_termsOf, List.map_cons, List.map_nil, m', f', l', e', n', z', b', a', r', s', i', w', c', o', k', g', q']
  (try refine AX_AW ?_); simp only [go_sem]; (repeat' first | apply CJ.mk | intro hc); all_goals try ((repeat' first | apply And.intro | intro hs) <;> (try simp only [go_sem, Bool.and_eq_false_iff] at hs) <;> omega)
  all_goals (rw [termsL, hc]; rfl)
noncomputable def c_impl_termsOf : List V → Option (Prop × List (Nat × V) × R) := famQ (fun (x : GLit) => k_impl_termsOf x)
@[go_sem] theorem c_impl_termsOf_eq (l_Kind : Int) (l_Atom_Name : List UInt8) (l_Atom_Args : List GTerm) (l_Op : Int) (l_A_Var : List UInt8) (l_A_Val_N : Int) (l_A_Val_S : List UInt8) (l_B_Var : List UInt8) (l_B_Val_N : Int) (l_B_Val_S : List UInt8) : c_impl_termsOf [(true, [.i .i64 l_Kind, .s l_Atom_Name, .sl false [.s [], .i .i64 0, .s []] (l_Atom_Args.map GTerm.cells), .i .i64 l_Op, .s l_A_Var, .i .i64 l_A_Val_N, .s l_A_Val_S, .s l_B_Var, .i .i64 l_B_Val_N, .s l_B_Val_S])] = some (True, [], .one (false, [.sl false [.s [], .i .i64 0, .s []] ((termsL (GLit.mk l_Kind (GAtom.mk l_Atom_Name l_Atom_Args) l_Op (GTerm.mk l_A_Var (GValue.mk l_A_Val_N l_A_Val_S)) (GTerm.mk l_B_Var (GValue.mk l_B_Val_N l_B_Val_S)))).map GTerm.cells)])) := famQ_eq _ (by rintro ⟨_, ⟨_, _⟩, _, ⟨_, ⟨_, _⟩⟩, ⟨_, ⟨_, _⟩⟩⟩ ⟨_, ⟨_, _⟩, _, ⟨_, ⟨_, _⟩⟩, ⟨_, ⟨_, _⟩⟩⟩ h; simp at h; simp_all) (GLit.mk l_Kind (GAtom.mk l_Atom_Name l_Atom_Args) l_Op (GTerm.mk l_A_Var (GValue.mk l_A_Val_N l_A_Val_S)) (GTerm.mk l_B_Var (GValue.mk l_B_Val_N l_B_Val_S)))
theorem c_impl_termsOf_ok : ∀ vs q o r, c_impl_termsOf vs = some (q, o, r) → q → SpecO Tryz.prog 277 vs o r := famQ_ok _
theorem flatB_len (f : GLit → List (List UInt8)) (c : Nat) : ∀ {b : List GLit}, (∀ l ∈ b, (f l).length ≤ c) → (b.flatMap f).length ≤ c * b.length
  | [], _ => by simp
  | l :: b, h => by
    have h1 := h l (by simp)
    have h2 := flatB_len f c (b := b) fun x hx => h x (by simp [hx])
    simp only [List.flatMap_cons, List.length_append, List.length_cons, Nat.mul_add]
    omega
theorem flatB_snoc {β : Type} (f : GLit → List β) {b : List GLit} {i : Nat} (h : i < b.length) : (b.take (i + 1)).flatMap f = (b.take i).flatMap f ++ f (b.getD i default) := by
  rw [take_snoc' default h, List.flatMap_append]; simp
def ac_impl_varsOf : ACode := q' ([o' 1 (.box 4 (.t 0)), o' 2 (.mov (.k (.v false [.nl [.s []]])))]) (q' ([f' 6 1 1, f' 7 1 6, l' 8 7, c' 9 276 [8], m' 3 9]) (.seq (q' ([f' 10 3 1, l' 11 10,
  n' 12 11, z' 13 0]) (.block 0 (.loop (q' ([r' 14 13 12]) (.seq (.cond (.t 14) .skip (.exit 0)) (.seq (.block 1 (q' ([i' 15 10 11 13, e' 16 10 15, w' 5 [.i
  .i64, .s, .sl [.s [], .i .i64 0, .s []], .i .i64, .s, .i .i64, .s, .s, .i .i64, .s], s' 10 5 16]) (g' [m' 17 3, e' 18 10 5, c' 19 277 [18], o' 20 (.app 3 40
  [.s, .i .i64, .s] (.t 17) (.t 19)), m' 3 20]))) (g' [a' 21 13, m' 13 21]))))))) (q' ([m' 22 3, c' 23 155 [22], m' 2 23]) .ret)))
theorem hc_impl_varsOf : Tryz.f197.body.bind (comp Tryz.prog Tryz.f197.ntmps) = some ac_impl_varsOf := by kernel_rfl
theorem k_impl_varsOf (r : GRule) (hpre : ruleB r = true) : SpecO Tryz.prog 197 [(true, [.i .i64 r.Kind, .s r.Head.Name, .sl false [.s [], .i .i64 0, .s []] (r.Head.Args.map GTerm.cells), .sl false [.i .i64 0, .s [], .sl false [.s [], .i .i64 0, .s []] [], .i .i64 0, .s [], .i .i64 0, .s [], .s [], .i .i64 0, .s []] (r.Body.map (GLit.cells false false))])] [] (.one (false, [.sl true [.s []] ((varsR r).map cStr)])) := by
  refine spec_of2 false false none Tryz.func197 hc_impl_varsOf (rvs := [.t 2]) (hΓ := mkCtx_ok (deep := false) (l := [(276, [], c_cloneTerm), (277, [], c_impl_termsOf), (155, [], c_impl_varsIn)]) ⟨c_cloneTerm_ok, c_impl_termsOf_ok, c_impl_varsIn_ok, trivial⟩) (h := ?_)
  intro hb hE
  simp only [go_sem] at hb
  dsimp only [ac_impl_varsOf, List.map_cons, List.map_nil, m', f', l', e', n', z', b', a', r', s', i', w', c', o', k', g', q']
  have hh := head_len hpre
  have hL := ruleB_lits hpre
  (try refine AX_AW ?_); simp only [go_sem]; (repeat' first | apply CJ.mk | intro hc); all_goals try ((repeat' first | apply And.intro | intro hs) <;> (try simp only [go_sem, Bool.and_eq_false_iff] at hs) <;> omega)
  refine aw_loop2 false [(false, 3, 0, 100006)] [11, 12] [] [] (fun i : {i : Nat // i ≤ r.Body.length} => [(3, .v false [.ow 100006]), (13, slV (.i .i64 i.1))]) (fun i => []) (fun i => [(100006, [.s [], .i .i64 0, .s []], (r.Head.Args ++ (r.Body.take i.1).flatMap termsL).map GTerm.cells)]) (fun i => r.Body.length - i.1) (⟨0, by simp⟩) _ (by simp only [go_sem]; try rfl) ?_ ?_
  · simp only [go_sem]
    all_goals first | omega | ((repeat' apply And.intro) <;> first | omega | rfl | skip)
  intro S0 hS0 i
  simp only [go_sem] at hS0
  obtain ⟨i, hi⟩ := i
  have h1 := terms_len (b := r.Body.take i) fun l hl => hL l (List.mem_of_mem_take hl)
  rw [List.length_take] at h1
  (try refine AX_AW ?_); simp only [go_sem, hS0]; (repeat' first | apply CJ.mk | intro hc); all_goals try ((repeat' first | apply And.intro | intro hs) <;> (try simp only [go_sem, Bool.and_eq_false_iff] at hs) <;> omega)
  all_goals first
    | (have h2 := termsL_len (hL _ (getD_mem (d := default) (show i < r.Body.length by omega))); (try simp only [List.length_append] at *); omega)
    | ((refine lpK_n2 (⟨i + 1, by omega⟩) _ (by simp only [go_sem]; try rfl) ?_; simp only [go_sem, hS0]; first | done | ((repeat' apply And.intro) <;> first | omega | (refine w64 ?_ ?_ ?_ <;> omega) | rfl | skip)); rw [flatB_snoc termsL (by omega)]; simp only [List.map_append, List.append_assoc]; done)
    | (rw [take_all (by omega), ← varsR_eq hpre, termsR]; done)
    | ((try simp only [List.length_append] at *); omega)
    | trace_state
noncomputable def c_impl_varsOf : List V → Option (Prop × List (Nat × V) × R) := famP (fun (x : GRule) h => k_impl_varsOf x h)
@[go_sem] theorem c_impl_varsOf_eq (r_Kind : Int) (r_Head_Name : List UInt8) (r_Head_Args : List GTerm) (r_Body : List GLit) : c_impl_varsOf [(true, [.i .i64 r_Kind, .s r_Head_Name, .sl false [.s [], .i .i64 0, .s []] (r_Head_Args.map GTerm.cells), .sl false [.i .i64 0, .s [], .sl false [.s [], .i .i64 0, .s []] [], .i .i64 0, .s [], .i .i64 0, .s [], .s [], .i .i64 0, .s []] (r_Body.map (GLit.cells false false))])] = some (ruleB (GRule.mk r_Kind (GAtom.mk r_Head_Name r_Head_Args) r_Body) = true, [], .one (false, [.sl true [.s []] ((varsR (GRule.mk r_Kind (GAtom.mk r_Head_Name r_Head_Args) r_Body)).map cStr)])) := famP_eq _ (by rintro ⟨_, ⟨_, _⟩, _⟩ ⟨_, ⟨_, _⟩, _⟩ h; simp at h; simp_all) (GRule.mk r_Kind (GAtom.mk r_Head_Name r_Head_Args) r_Body)
theorem c_impl_varsOf_ok : ∀ vs q o r, c_impl_varsOf vs = some (q, o, r) → q → SpecO Tryz.prog 197 vs o r := famP_ok _
@[go_sem] theorem l16T_nil (l : List GTerm) : c_spec_l16Terms [(false, [.sl false [.s []] []]), (false, [.sl false [.s [], .i .i64 0, .s []] (l.map GTerm.cells)])] = some (0 + l.length < 1099511627776, [], .one (false, [.sl false [.s []] ((putsS sLt [] (varL l)).map cStr)])) := c_spec_l16Terms_eq [] l
@[go_sem] theorem l16T_two (a : List (List UInt8)) (v1 : List UInt8) (n1 : Int) (s1 v2 : List UInt8) (n2 : Int) (s2 : List UInt8) : c_spec_l16Terms [(false, [.sl false [.s []] (a.map cStr)]), (false, [.sl false [.s [], .i .i64 0, .s []] [[.s v1, .i .i64 n1, .s s1], [.s v2, .i .i64 n2, .s s2]]])] = some (a.length + 2 < 1099511627776, [], .one (false, [.sl false [.s []] ((putsS sLt a (varL [⟨v1, ⟨n1, s1⟩⟩, ⟨v2, ⟨n2, s2⟩⟩])).map cStr)])) := c_spec_l16Terms_eq a [⟨v1, ⟨n1, s1⟩⟩, ⟨v2, ⟨n2, s2⟩⟩]
theorem putsB_app (l r s : List (List UInt8)) : putsS sLt (putsS sLt l r) s = putsS sLt l (r ++ s) := by simp [putsS, List.foldl_append]
def ac_spec_VarsOf : ACode := q' ([o' 1 (.box 4 (.t 0)), o' 2 (.mov (.k (.v false [.nl [.s []]])))]) (q' ([o' 5 (.bsl 1 0 [.s] []), m' 3 5]) (.seq (q' ([e' 6 4 1, c' 7 112 [6], o' 8 (.not
  (.t 7))]) (.cond (.t 8) (q' ([m' 9 3, m' 2 9]) .ret) .skip)) (q' ([m' 10 3, f' 11 1 1, f' 12 1 11, l' 13 12, c' 14 152 [10, 13], m' 3 14]) (.seq (q' ([f' 15 3
  1, l' 16 15, n' 17 16, z' 18 0]) (.block 0 (.loop (q' ([r' 19 18 17]) (.seq (.cond (.t 19) .skip (.exit 0)) (.seq (.block 1 (q' ([m' 20 18, m' 4 20]) (q' ([m'
  21 3, f' 22 3 1, l' 23 22, m' 24 4, i' 25 10 23 24, f' 26 1 25, f' 27 1 26, l' 28 27, c' 29 152 [21, 28], m' 3 29]) (.rego [(true, 0, m' 30 3), (true, 1, f'
  31 3 1), (true, 2, l' 32 31), (true, 3, m' 33 4), (true, 4, i' 34 10 32 33), (true, 5, f' 35 4 34), (true, 6, e' 36 3 35), (true, 7, f' 37 3 1), (true, 8, l'
  38 37), (false, 9, m' 39 4), (false, 10, i' 40 10 38 39), (false, 11, f' 41 7 40), (false, 12, e' 42 3 41), (false, 13, o' 43 (.bsl 3 2 [.s, .i .i64, .s] [(0,
  .t 36), (1, .t 42)])), (false, 14, c' 44 152 [30, 43]), (false, 15, m' 3 44)] [2, 3])))) (g' [a' 45 18, m' 18 45]))))))) (q' ([m' 46 3, m' 2 46]) .ret)))))
theorem hc_spec_VarsOf : Tryz.f183.body.bind (comp Tryz.prog Tryz.f183.ntmps) = some ac_spec_VarsOf := by kernel_rfl
theorem k_spec_VarsOf (r : GRule) : SpecO Tryz.prog 183 [(true, [.i .i64 r.Kind, .s r.Head.Name, .sl false [.s [], .i .i64 0, .s []] (r.Head.Args.map GTerm.cells), .sl false [.i .i64 0, .s [], .sl false [.s [], .i .i64 0, .s []] [], .i .i64 0, .s [], .i .i64 0, .s [], .s [], .i .i64 0, .s []] (r.Body.map (GLit.cells false false))])] [] (.one (false, [.sl false [.s []] ((bif ruleB r then varsR r else []).map cStr)])) := by
  refine spec_of2 false true none Tryz.func183 hc_spec_VarsOf (rvs := [.t 2]) (hΓ := mkCtx_ok (deep := false) (l := [(112, [], c_spec_l15RuleOk), (152, [], c_spec_l16Terms)]) ⟨c_spec_l15RuleOk_ok, c_spec_l16Terms_ok, trivial⟩) (h := ?_)
  intro hb hE
  simp only [go_sem] at hb
  dsimp only [ac_spec_VarsOf, List.map_cons, List.map_nil, m', f', l', e', n', z', b', a', r', s', i', w', c', o', k', g', q']
  (try refine AX_AW ?_); simp only [go_sem]; (repeat' first | apply CJ.mk | intro hc); all_goals try ((repeat' first | apply And.intro | intro hs) <;> (try simp only [go_sem, Bool.and_eq_false_iff] at hs) <;> omega)
  · rw [hc]; rfl
  · have := head_len hc; omega
  have hR : ruleB r = true := hc
  have hh := head_len hR
  have hA := allV_len hR
  rw [hR]
  clear hc
  refine aw_loop2 false [] [1, 17] [2, 3] [] (fun i : {i : Nat // i ≤ r.Body.length} => [(3, .v false [.c (.sl false [.s []] ((putsS sLt [] (varL r.Head.Args ++ (r.Body.take i.1).flatMap fun l => varL l.Atom.Args ++ varL [l.A, l.B])).map cStr))]), (18, slV (.i .i64 i.1))]) (fun i => []) (fun i => []) (fun i => r.Body.length - i.1) (⟨0, by simp⟩) _ rfl ?_ ?_
  · simp only [go_sem]
    all_goals first | omega | ((repeat' apply And.intro) <;> first | omega | rfl | skip)
  intro S0 hS0 i
  simp only [go_sem] at hS0
  obtain ⟨i, hi⟩ := i
  have hp := puts_len sLt (varL r.Head.Args ++ (r.Body.take i).flatMap fun l => varL l.Atom.Args ++ varL [l.A, l.B]) []
  have hv := varL_len r.Head.Args
  have hf : ((r.Body.take i).flatMap fun l => varL l.Atom.Args ++ varL [l.A, l.B]).length ≤ 64 := by
    refine Nat.le_trans ?_ hA
    have e : allV r = ((r.Body.take i).flatMap fun l => varL l.Atom.Args ++ varL [l.A, l.B]) ++ (r.Body.drop i).flatMap fun l => varL l.Atom.Args ++ varL [l.A, l.B] := by
      rw [← List.flatMap_append, List.take_append_drop]; rfl
    rw [e, List.length_append]; omega
  simp only [List.length_append, List.length_nil] at hp
  have h2 := puts_len sLt (varL (r.Body.getD i default).Atom.Args) (putsS sLt [] (varL r.Head.Args ++ (r.Body.take i).flatMap fun l => varL l.Atom.Args ++ varL [l.A, l.B]))
  have h3 := varL_len (r.Body.getD i default).Atom.Args
  (try refine AX_AW ?_); simp only [go_sem, hS0]; (repeat' first | apply CJ.mk | intro hc); all_goals try ((repeat' first | apply And.intro | intro hs) <;> (try simp only [go_sem, Bool.and_eq_false_iff] at hs) <;> omega)
  all_goals first
    | (have hq := rule_args hR (getD_mem (d := default) (show i < r.Body.length by omega)); omega)
    | ((refine lpK_n2 (⟨i + 1, by omega⟩) _ rfl ?_; simp only [go_sem, hS0]; first | done | ((repeat' apply And.intro) <;> first | omega | (refine w64 ?_ ?_ ?_ <;> omega) | rfl | skip)); rw [show ((r.Body.take (i + 1)).flatMap fun l => varL l.Atom.Args ++ varL [l.A, l.B]) = _ from flatB_snoc _ (by omega)]; simp only [putsB_app, List.append_assoc]; done)
    | ((refine lpK_n2 (⟨i + 1, by omega⟩) _ rfl ?_; simp only [go_sem, hS0]; first | done | ((repeat' apply And.intro) <;> first | omega | (refine w64 ?_ ?_ ?_ <;> omega) | rfl | skip)); trace_state)
    | (rw [take_all (by omega)]; rfl)
    | trace_state
noncomputable def c_spec_VarsOf : List V → Option (Prop × List (Nat × V) × R) := famQ (fun (x : GRule) => k_spec_VarsOf x)
@[go_sem] theorem c_spec_VarsOf_eq (r_Kind : Int) (r_Head_Name : List UInt8) (r_Head_Args : List GTerm) (r_Body : List GLit) : c_spec_VarsOf [(true, [.i .i64 r_Kind, .s r_Head_Name, .sl false [.s [], .i .i64 0, .s []] (r_Head_Args.map GTerm.cells), .sl false [.i .i64 0, .s [], .sl false [.s [], .i .i64 0, .s []] [], .i .i64 0, .s [], .i .i64 0, .s [], .s [], .i .i64 0, .s []] (r_Body.map (GLit.cells false false))])] = some (True, [], .one (false, [.sl false [.s []] ((bif ruleB (GRule.mk r_Kind (GAtom.mk r_Head_Name r_Head_Args) r_Body) then varsR (GRule.mk r_Kind (GAtom.mk r_Head_Name r_Head_Args) r_Body) else []).map cStr)])) := famQ_eq _ (by rintro ⟨_, ⟨_, _⟩, _⟩ ⟨_, ⟨_, _⟩, _⟩ h; simp at h; simp_all) (GRule.mk r_Kind (GAtom.mk r_Head_Name r_Head_Args) r_Body)
theorem c_spec_VarsOf_ok : ∀ vs q o r, c_spec_VarsOf vs = some (q, o, r) → q → SpecO Tryz.prog 183 vs o r := famQ_ok _
def ac_spec_LooseVars : ACode := q' ([o' 1 (.box 4 (.t 0)), o' 2 (.mov (.k (.v false [.nl [.s []]])))]) (q' ([e' 7 4 1, c' 8 182 [7], m' 3 8]) (q' ([o' 9 (.bsl 1 0 [.s] []), m' 4 9]) (.seq (q'
  ([e' 10 4 1, c' 11 183 [10], n' 12 11, z' 13 0]) (.block 0 (.loop (q' ([r' 14 13 12]) (.seq (.cond (.t 14) .skip (.exit 0)) (.seq (.block 1 (q' ([i' 15 1 11
  13, l' 16 15, m' 6 16]) (q' ([m' 17 3, m' 18 6, c' 19 153 [17, 18], o' 20 (.not (.t 19))]) (.cond (.t 20) (g' [m' 21 4, m' 22 6, o' 23 (.bsl 1 1 [.s] [(0, .t
  22)]), o' 24 (.app 1 16 [.s] (.t 21) (.t 23)), m' 4 24]) .skip)))) (g' [a' 25 13, m' 13 25]))))))) (q' ([m' 26 4, m' 2 26]) .ret))))
theorem hc_spec_LooseVars : Tryz.f113.body.bind (comp Tryz.prog Tryz.f113.ntmps) = some ac_spec_LooseVars := by kernel_rfl
theorem k_spec_LooseVars (r : GRule) : SpecO Tryz.prog 113 [(true, [.i .i64 r.Kind, .s r.Head.Name, .sl false [.s [], .i .i64 0, .s []] (r.Head.Args.map GTerm.cells), .sl false [.i .i64 0, .s [], .sl false [.s [], .i .i64 0, .s []] [], .i .i64 0, .s [], .i .i64 0, .s [], .s [], .i .i64 0, .s []] (r.Body.map (GLit.cells false false))])] [] (.one (false, [.sl false [.s []] ((looseOf r).map cStr)])) := by
  refine spec_of2 false true none Tryz.func113 hc_spec_LooseVars (rvs := [.t 2]) (hΓ := mkCtx_ok (deep := false) (l := [(182, [], c_spec_BoundVars), (183, [], c_spec_VarsOf), (153, [], c_spec_l16Has)]) ⟨c_spec_BoundVars_ok, c_spec_VarsOf_ok, c_spec_l16Has_ok, trivial⟩) (h := ?_)
  intro hb hE
  simp only [go_sem] at hb
  dsimp only [ac_spec_LooseVars, List.map_cons, List.map_nil, m', f', l', e', n', z', b', a', r', s', i', w', c', o', k', g', q']
  have hlv : (bif ruleB r then varsR r else []).length ≤ 128 := by
    cases h : ruleB r with
    | true => exact varsR_len h
    | false => exact Nat.zero_le _
  (try refine AX_AW ?_); simp only [go_sem]; (repeat' first | apply CJ.mk | intro hc); all_goals try ((repeat' first | apply And.intro | intro hs) <;> (try simp only [go_sem, Bool.and_eq_false_iff] at hs) <;> omega)
  refine aw_loop2 false [(false, 4, 0, 100008)] [3, 11, 12] [] [] (fun i : {i : Nat // i ≤ (bif ruleB r then varsR r else []).length} => [(4, .v false [.ow 100008]), (13, slV (.i .i64 i.1))]) (fun i => []) (fun i => [(100008, [.s []], (((bif ruleB r then varsR r else []).take i.1).filter fun v => !(bif ruleB r then boundL r else []).contains v).map cStr)]) (fun i => (bif ruleB r then varsR r else []).length - i.1) (⟨0, by simp⟩) _ (by simp only [go_sem]; try rfl) ?_ ?_
  · simp only [go_sem]
    all_goals first | omega | ((repeat' apply And.intro) <;> first | omega | rfl | skip)
  intro S0 hS0 i
  simp only [go_sem] at hS0
  obtain ⟨i, hi⟩ := i
  have hf := List.length_filter_le (fun v => !(bif ruleB r then boundL r else []).contains v) ((bif ruleB r then varsR r else []).take i)
  rw [List.length_take] at hf
  (try refine AX_AW ?_); simp only [go_sem, hS0]; (repeat' first | apply CJ.mk | intro hc); all_goals try ((repeat' first | apply And.intro | intro hs) <;> (try simp only [go_sem, Bool.and_eq_false_iff] at hs) <;> omega)
  all_goals first
    | omega
    | (have hc2 : (fun v => !(bif ruleB r then boundL r else []).contains v) ((bif ruleB r then varsR r else []).getD i []) = true := by (first | exact hc | (simpa [-List.getD_eq_getElem?_getD] using hc))
       (refine lpK_n2 (⟨i + 1, by omega⟩) _ (by simp only [go_sem]; try rfl) ?_; simp only [go_sem, hS0]; first | done | ((repeat' apply And.intro) <;> first | omega | (refine w64 ?_ ?_ ?_ <;> omega) | rfl | skip))
       rw [f_yes (p := fun v => !(bif ruleB r then boundL r else []).contains v) [] (by omega) hc2]; done)
    | (have hc2 : (fun v => !(bif ruleB r then boundL r else []).contains v) ((bif ruleB r then varsR r else []).getD i []) = false := by (first | exact hc | (simpa [-List.getD_eq_getElem?_getD] using hc))
       (refine lpK_n2 (⟨i + 1, by omega⟩) _ (by simp only [go_sem]; try rfl) ?_; simp only [go_sem, hS0]; first | done | ((repeat' apply And.intro) <;> first | omega | (refine w64 ?_ ?_ ?_ <;> omega) | rfl | skip))
       rw [f_no (p := fun v => !(bif ruleB r then boundL r else []).contains v) [] (by omega) hc2]; done)
    | (rw [take_all (by omega), looseOf]; cases h : ruleB r <;> rfl)
    | trace_state
noncomputable def c_spec_LooseVars : List V → Option (Prop × List (Nat × V) × R) := famQ (fun (x : GRule) => k_spec_LooseVars x)
@[go_sem] theorem c_spec_LooseVars_eq (r_Kind : Int) (r_Head_Name : List UInt8) (r_Head_Args : List GTerm) (r_Body : List GLit) : c_spec_LooseVars [(true, [.i .i64 r_Kind, .s r_Head_Name, .sl false [.s [], .i .i64 0, .s []] (r_Head_Args.map GTerm.cells), .sl false [.i .i64 0, .s [], .sl false [.s [], .i .i64 0, .s []] [], .i .i64 0, .s [], .i .i64 0, .s [], .s [], .i .i64 0, .s []] (r_Body.map (GLit.cells false false))])] = some (True, [], .one (false, [.sl false [.s []] ((looseOf (GRule.mk r_Kind (GAtom.mk r_Head_Name r_Head_Args) r_Body)).map cStr)])) := famQ_eq _ (by rintro ⟨_, ⟨_, _⟩, _⟩ ⟨_, ⟨_, _⟩, _⟩ h; simp at h; simp_all) (GRule.mk r_Kind (GAtom.mk r_Head_Name r_Head_Args) r_Body)
theorem c_spec_LooseVars_ok : ∀ vs q o r, c_spec_LooseVars vs = some (q, o, r) → q → SpecO Tryz.prog 113 vs o r := famQ_ok _
theorem contains_enc (k : List (List UInt8)) (x : List UInt8) : Lib.containsS (k.map fun s => (⟨s.toArray⟩ : ByteArray)) ⟨x.toArray⟩ = k.contains x := by
  rw [Bool.eq_iff_iff, Lib.containsS_iff, List.contains_iff_mem, List.mem_map]
  constructor
  · rintro ⟨s, hs, e⟩
    have e2 : s.toArray = x.toArray := ByteArray.mk.inj e
    have : s = x := by simpa using e2
    exact this ▸ hs
  · intro h; exact ⟨x, h, rfl⟩
theorem loose_call (b o n cap : Nat) (a : Option Addr) (y : ByteArray) (W : World) (r : Bool) (hcell : W.cell? ⟨b, o, none⟩ = some (Value.slice a n cap)) (HC : Aside (Calls Tryz.prog 102 #[.slice a n cap, .string y] W fun e w' => e = .returned (.bool r) ∧ w' = W)) : Calls Tryz.prog 198 #[.string y, .pointer (some ⟨b, o, none⟩)] W fun e w' => e = .returned (.bool r) ∧ ∃ q, w' = W.drewN q := by
  go_enter Tryz.func198, Tryz.ntmps198
  go_wp2_with (go_at_call 102; refine HC.out.mono ?_; rintro e w' ⟨rfl, rfl⟩)
  go_ret
  exact ⟨rfl, 0, rfl⟩
theorem loose_gives (k : List (List UInt8)) (F : Nat → Prop) (W : World) (lb : List Value) (h : C.RdVals F W [.p [.sl false [.s []] (k.map cStr)]] lb []) (x : List UInt8) : FnGives Tryz.prog 198 lb.toArray #[encStr x] (.bool (k.contains x)) W := by
  unfold C.RdVals at h
  obtain ⟨v, vs, f1, f2, rfl, hf, h1, h2⟩ := h
  unfold C.RdVals at h2
  obtain ⟨rfl, rfl⟩ := h2
  unfold C.Rd at h1
  obtain ⟨rfl, b, o, vs, rfl, hFb, hca, hv⟩ := h1
  unfold C.RdVals at hv
  obtain ⟨v, vs', f3, f4, rfl, hf2, hv1, hv2⟩ := hv
  unfold C.RdVals at hv2
  obtain ⟨rfl, rfl⟩ := hv2
  unfold C.Rd at hv1
  obtain ⟨a, cap, rfl, hl1, hl2, hl3, hl4⟩ := hv1
  simp only [cond_false] at hl4
  have hcell := hca 0 (by simp)
  simp only [List.getElem_cons_zero, Nat.add_zero] at hcell
  have hcon : Calls Tryz.prog 102 #[.slice a (k.map cStr).length cap, encStr x] W fun e w' => e = .returned (.bool (k.contains x)) ∧ w' = W := by
    rcases hl4.2 with h0 | ⟨b2, o2, vs2, rfl, hF2, hca2, hrr⟩
    · have hk : k = [] := by simpa using h0
      subst hk
      exact Any.slices_Contains_string_empty Tryz.l110 a cap ⟨x.toArray⟩ W
    · obtain ⟨rfl, _, hok⟩ := rows_strs hrr
      have := Any.slices_Contains_string Tryz.l110 b2 o2 k.length cap (k.map fun s => (⟨s.toArray⟩ : ByteArray)) ⟨x.toArray⟩ W (by simp) (by rw [List.length_map] at hl1; simp only [maxLen] at hl2; omega) (fun j hj => by
        have hj' : j < k.length := by simpa using hj
        have := hca2 j (by simpa using hj')
        rw [this]
        simp [encStr, List.getD_eq_getElem?_getD, hj'])
      rw [List.take_of_length_le (by simp), contains_enc] at this
      rw [List.length_map]
      exact this
  show Calls Tryz.prog 198 #[encStr x, .pointer (some ⟨b, o, none⟩)] W _
  exact loose_call b o _ cap a _ W _ hcell hcon
theorem k_delStr_loose (l : List (List UInt8)) (k : List (List UInt8)) : SpecO Tryz.prog 196 [(false, [.sl true [.s []] (l.map cStr)]), (false, [.f 198 [.p [.sl false [.s []] (k.map cStr)]]])] [] (.one (false, [.sl true [.s []] ((l.filter fun v => !k.contains v).map cStr)])) := by
  refine delete_out Tryz.delStr (by kernel_rfl) (fun w => Tryz.zeroValue9 w) (enters_of Tryz.func198 (by kernel_rfl) rfl) (fun v => k.contains v) (loose_gives k) ?_ l
  intro F w lb fp h
  unfold C.RdVals at h
  obtain ⟨v, vs, f1, f2, rfl, hf, h1, h2⟩ := h
  unfold C.RdVals at h2
  obtain ⟨rfl, rfl⟩ := h2
  unfold C.Rd at h1
  rw [hf, h1.1]; rfl
noncomputable def c_delStr_loose : List V → Option (Prop × List (Nat × V) × R) := famQ (fun (x : (List (List UInt8)) × (List (List UInt8))) => k_delStr_loose x.1 x.2)
@[go_sem] theorem c_delStr_loose_eq (l : List (List UInt8)) (k : List (List UInt8)) : c_delStr_loose [(false, [.sl true [.s []] (l.map cStr)]), (false, [.f 198 [.p [.sl false [.s []] (k.map cStr)]]])] = some (True, [], .one (false, [.sl true [.s []] ((l.filter fun v => !k.contains v).map cStr)])) := famQ_eq _ (by rintro ⟨_, _⟩ ⟨_, _⟩ h; simp at h; simp_all) (l, k)
theorem c_delStr_loose_ok : ∀ vs q o r, c_delStr_loose vs = some (q, o, r) → q → SpecO Tryz.prog 196 vs o r := famQ_ok _
def ac_impl_LooseVars : ACode := q' ([o' 1 (.box 4 (.t 0)), o' 2 (.mov (.k (.v false [.nl [.s []]])))]) (.seq (q' ([e' 4 4 1, c' 5 117 [4], o' 6 (.not (.t 5))]) (.cond (.t 6) (q' ([o' 2 (.mov
  (.k (.v false [.nl [.s []]])))]) .ret) .skip)) (q' ([e' 7 4 1, c' 8 195 [7], w' 3 [.sl [.s []]], s' 1 3 8]) (q' ([e' 9 4 1, c' 10 197 [9], o' 11 (.mf 198 [.t
  3]), c' 12 196 [10, 11], m' 2 12]) .ret)))
theorem hc_impl_LooseVars : Tryz.f118.body.bind (comp Tryz.prog Tryz.f118.ntmps) = some ac_impl_LooseVars := by kernel_rfl
theorem k_impl_LooseVars (r : GRule) : SpecO Tryz.prog 118 [(true, [.i .i64 r.Kind, .s r.Head.Name, .sl false [.s [], .i .i64 0, .s []] (r.Head.Args.map GTerm.cells), .sl false [.i .i64 0, .s [], .sl false [.s [], .i .i64 0, .s []] [], .i .i64 0, .s [], .i .i64 0, .s [], .s [], .i .i64 0, .s []] (r.Body.map (GLit.cells false false))])] [] (.one (false, [.sl true [.s []] ((looseOf r).map cStr)])) := by
  refine spec_of2 false false none Tryz.func118 hc_impl_LooseVars (rvs := [.t 2]) (hΓ := mkCtx_ok (deep := false) (l := [(117, [], c_impl_ruleOk), (195, [], c_impl_bound), (197, [], c_impl_varsOf), (196, [0], c_delStr_loose)]) ⟨c_impl_ruleOk_ok, c_impl_bound_ok, c_impl_varsOf_ok, c_delStr_loose_ok, trivial⟩) (h := ?_)
  intro hb hE
  simp only [go_sem] at hb
  dsimp only [ac_impl_LooseVars, List.map_cons, List.map_nil, m', f', l', e', n', z', b', a', r', s', i', w', c', o', k', g', q']
  (try refine AX_AW ?_); simp only [go_sem]; (repeat' first | apply CJ.mk | intro hc); all_goals try ((repeat' first | apply And.intro | intro hs) <;> (try simp only [go_sem, Bool.and_eq_false_iff] at hs) <;> omega)
  all_goals (have h9 : ruleB r = _ := hc; rw [looseOf, h9]; first | rfl | trace_state)
noncomputable def c_impl_LooseVars : List V → Option (Prop × List (Nat × V) × R) := famQ (fun (x : GRule) => k_impl_LooseVars x)
@[go_sem] theorem c_impl_LooseVars_eq (r_Kind : Int) (r_Head_Name : List UInt8) (r_Head_Args : List GTerm) (r_Body : List GLit) : c_impl_LooseVars [(true, [.i .i64 r_Kind, .s r_Head_Name, .sl false [.s [], .i .i64 0, .s []] (r_Head_Args.map GTerm.cells), .sl false [.i .i64 0, .s [], .sl false [.s [], .i .i64 0, .s []] [], .i .i64 0, .s [], .i .i64 0, .s [], .s [], .i .i64 0, .s []] (r_Body.map (GLit.cells false false))])] = some (True, [], .one (false, [.sl true [.s []] ((looseOf (GRule.mk r_Kind (GAtom.mk r_Head_Name r_Head_Args) r_Body)).map cStr)])) := famQ_eq _ (by rintro ⟨_, ⟨_, _⟩, _⟩ ⟨_, ⟨_, _⟩, _⟩ h; simp at h; simp_all) (GRule.mk r_Kind (GAtom.mk r_Head_Name r_Head_Args) r_Body)
theorem c_impl_LooseVars_ok : ∀ vs q o r, c_impl_LooseVars vs = some (q, o, r) → q → SpecO Tryz.prog 118 vs o r := famQ_ok _
end Go.Aw
