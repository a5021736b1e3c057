/- What a view leans on. No condition. -/
import Derived.Test.YthlbadfickhkfaaGreatzbT2
import Derived.Test.YthlbadfickhkfaaGreatzbT7
namespace Go.Aw
open Go.Proofs
attribute [local irreducible] aft blk lpK retK AW SpecO
set_option linter.unusedVariables false
set_option linter.unusedSimpArgs false
set_option maxRecDepth 100000
def bodyN (r : GRule) : List (List UInt8) := ((atomsOf r).drop 1).map GAtom.Name
def leansR (p : GProgram) (a : List UInt8) (r : GRule) : Bool := (r.Kind == 1 && kindOf p r.Head.Name == 3) && r.Head.Name == a
def nextL (p : GProgram) (a : List UInt8) : List (List UInt8) := (p.Rules.filter (leansR p a)).flatMap bodyN
inductive Rch (p : GProgram) (a : List UInt8) : List UInt8 → Prop
  | one {b : List UInt8} : b ∈ nextL p a → Rch p a b
  | step {b c : List UInt8} : Rch p a b → c ∈ nextL p b → Rch p a c
def allN' (p : GProgram) : List (List UInt8) := p.Rules.flatMap bodyN
theorem next_all {p : GProgram} {a b : List UInt8} (h : b ∈ nextL p a) : b ∈ allN' p := by
  obtain ⟨r, hr, hb⟩ := List.mem_flatMap.1 h
  exact List.mem_flatMap.2 ⟨r, (List.mem_filter.1 hr).1, hb⟩
theorem Rch.all {p : GProgram} {a b : List UInt8} (h : Rch p a b) : b ∈ allN' p := by
  cases h with
  | one h => exact next_all h
  | step _ h => exact next_all h
theorem Rch.mem {p : GProgram} {a : List UInt8} {l : List (List UInt8)} (h1 : ∀ x ∈ nextL p a, x ∈ l) (h2 : ∀ x ∈ l, ∀ y ∈ nextL p x, y ∈ l) {b : List UInt8} (h : Rch p a b) : b ∈ l := by
  induction h with
  | one h => exact h1 _ h
  | step _ h ih => exact h2 _ ih _ h
open Classical in
noncomputable def reachS (p : GProgram) (a : List UInt8) : List (List UInt8) := (putsS sLt [] (allN' p)).filter fun v => decide (Rch p a v)
open Classical in
theorem mem_reachS {p : GProgram} {a v : List UInt8} : v ∈ reachS p a ↔ Rch p a v := by
  rw [reachS, List.mem_filter, mem_putsS, decide_eq_true_eq]
  exact ⟨fun h => h.2, fun h => ⟨.inr h.all, h⟩⟩
noncomputable def leans (p : GProgram) (a b : List UInt8) : Bool := (checkNames p).1 == 0 && (reachS p a).contains b
theorem contains_mem {l l' : List (List UInt8)} {b : List UInt8} (h : b ∈ l ↔ b ∈ l') : l.contains b = l'.contains b := by
  rw [Bool.eq_iff_iff, List.contains_iff_mem, List.contains_iff_mem, h]
/-- one name's successors are put behind, each once -/
def addL (o l : List (List UInt8)) : List (List UInt8) := l.foldl (fun o y => if y ∈ o then o else o ++ [y]) o
theorem addL_app (o l r : List (List UInt8)) : addL o (l ++ r) = addL (addL o l) r := by simp [addL, List.foldl_append]
theorem addL_pre : ∀ (l o : List (List UInt8)), ∃ s, addL o l = o ++ s ∧ (∀ x ∈ s, x ∈ l)
  | [], o => ⟨[], by simp [addL], by simp⟩
  | y :: l, o => by
    by_cases h : y ∈ o
    · obtain ⟨s, e, hs⟩ := addL_pre l o
      exact ⟨s, by rw [← e]; simp [addL, h], fun x hx => List.mem_cons_of_mem _ (hs x hx)⟩
    · obtain ⟨s, e, hs⟩ := addL_pre l (o ++ [y])
      refine ⟨y :: s, ?_, ?_⟩
      · have : addL o (y :: l) = addL (o ++ [y]) l := by simp [addL, h]
        rw [this, e]; simp
      · intro x hx
        rcases List.mem_cons.1 hx with rfl | hx
        · simp
        · exact List.mem_cons_of_mem _ (hs x hx)
theorem addL_mem {l o : List (List UInt8)} {x : List UInt8} : x ∈ addL o l ↔ x ∈ o ∨ x ∈ l := by
  induction l generalizing o with
  | nil => simp [addL]
  | cons y l ih =>
    have e : addL o (y :: l) = addL (if y ∈ o then o else o ++ [y]) l := rfl
    rw [e, ih]
    by_cases h : y ∈ o
    · simp only [h, if_true, List.mem_cons]
      constructor
      · rintro (h1 | h1); exact .inl h1; exact .inr (.inr h1)
      · rintro (h1 | rfl | h1); exact .inl h1; exact .inl h; exact .inr h1
    · rw [if_neg h, List.mem_append, List.mem_singleton, List.mem_cons, or_assoc]
theorem addL_nodup : ∀ {l o : List (List UInt8)}, o.Nodup → (addL o l).Nodup
  | [], o, h => h
  | y :: l, o, h => by
    have e : addL o (y :: l) = addL (if y ∈ o then o else o ++ [y]) l := rfl
    rw [e]
    by_cases hy : y ∈ o
    · rw [if_pos hy]; exact addL_nodup h
    · rw [if_neg hy]
      refine addL_nodup (List.nodup_append.2 ⟨h, by simp, ?_⟩)
      intro a ha b hb
      rw [List.mem_singleton] at hb
      rintro rfl
      exact hy (hb ▸ ha)
theorem addL_snoc_in {o l : List (List UInt8)} {x : List UInt8} (h : x ∈ addL o l) : addL o (l ++ [x]) = addL o l := by
  rw [addL_app]; exact if_pos h
theorem addL_snoc_out {o l : List (List UInt8)} {x : List UInt8} (h : ¬ x ∈ addL o l) : addL o (l ++ [x]) = addL o l ++ [x] := by
  rw [addL_app]; simp [addL] at h ⊢; intro h'; exact absurd h' h
def stepF (p : GProgram) : List (List UInt8) × List (List UInt8) → List (List UInt8) × List (List UInt8)
  | (o, []) => (o, [])
  | (o, x :: r) => (addL o (nextL p x), r ++ (addL o (nextL p x)).drop o.length)
def itF (p : GProgram) (v : List UInt8) : Nat → List (List UInt8) × List (List UInt8)
  | 0 => ([], [v])
  | k + 1 => stepF p (itF p v k)
def univ (p : GProgram) : Nat := (allN' p).length
def reachL (p : GProgram) (v : List UInt8) : List (List UInt8) := (itF p v (2 * univ p + 2)).1
structure FInv (p : GProgram) (v : List UInt8) (k : Nat) (o n : List (List UInt8)) : Prop where
  nd : o.Nodup
  un : ∀ x ∈ o, x ∈ allN' p
  ok : ∀ x ∈ o, Rch p v x
  nx : ∀ x ∈ n, x = v ∨ x ∈ o
  cl : ∀ x, x = v ∨ x ∈ o → x ∈ n ∨ ∀ y ∈ nextL p x, y ∈ o
  ms : n = [] ∨ k + 2 * (univ p - o.length) + n.length ≤ 2 * univ p + 1
theorem nodup_len {α : Type} [DecidableEq α] : ∀ {l m : List α}, l.Nodup → (∀ x ∈ l, x ∈ m) → l.length ≤ m.length
  | [], _, _, _ => Nat.zero_le _
  | x :: l, m, h, hm => by
    rw [List.nodup_cons] at h
    have h1 := nodup_len (l := l) (m := m.erase x) h.2 fun y hy => (List.mem_erase_of_ne (fun e => h.1 (by rw [← e]; exact hy))).2 (hm y (by simp [hy]))
    have h2 := List.length_erase_of_mem (hm x (by simp))
    have h3 : 0 < m.length := List.length_pos_of_mem (hm x (by simp))
    simp only [List.length_cons]; omega
theorem FInv.start (p : GProgram) (v : List UInt8) : FInv p v 0 [] [v] :=
  ⟨List.nodup_nil, by simp, by simp, by simp, fun x hx => .inl (by simpa using hx), .inr (by simp)⟩
theorem FInv.step {p : GProgram} {v : List UInt8} {k : Nat} {o r : List (List UInt8)} {x : List UInt8} (h : FInv p v k o (x :: r)) : FInv p v (k + 1) (addL o (nextL p x)) (r ++ (addL o (nextL p x)).drop o.length) := by
  obtain ⟨s, e, hs⟩ := addL_pre (nextL p x) o
  have hd : (addL o (nextL p x)).drop o.length = s := by rw [e]; simp
  have hx : x = v ∨ Rch p v x := (h.nx x (by simp)).imp id (h.ok x)
  have hR : ∀ y ∈ nextL p x, Rch p v y := fun y hy => by
    rcases hx with rfl | hx
    · exact .one hy
    · exact .step hx hy
  have hun : ∀ y ∈ addL o (nextL p x), y ∈ allN' p := fun y hy => (addL_mem.1 hy).elim (h.un y) next_all
  have hnd := addL_nodup (l := nextL p x) h.nd
  refine ⟨hnd, hun, fun y hy => (addL_mem.1 hy).elim (h.ok y) (hR y), ?_, ?_, ?_⟩
  · intro y hy
    rw [hd] at hy
    rcases List.mem_append.1 hy with hy | hy
    · exact (h.nx y (by simp [hy])).imp id fun hy => addL_mem.2 (.inl hy)
    · exact .inr (addL_mem.2 (.inr (hs y hy)))
  · intro y hy
    rw [hd]
    have old : y = v ∨ y ∈ o → y ∈ r ++ s ∨ ∀ z ∈ nextL p y, z ∈ addL o (nextL p x) := by
      intro hy
      rcases h.cl y hy with h1 | h1
      · rcases List.mem_cons.1 h1 with rfl | h1
        · exact .inr fun z hz => addL_mem.2 (.inr hz)
        · exact .inl (List.mem_append.2 (.inl h1))
      · exact .inr fun z hz => addL_mem.2 (.inl (h1 z hz))
    rcases hy with hy | hy
    · exact old (.inl hy)
    · rw [e] at hy
      rcases List.mem_append.1 hy with hy | hy
      · exact old (.inr hy)
      · exact .inl (List.mem_append.2 (.inr hy))
  · right
    have h1 := nodup_len hnd hun
    have h2 : (addL o (nextL p x)).length = o.length + s.length := by rw [e, List.length_append]
    have h3 := h.ms.resolve_left (by simp)
    rw [hd]
    simp only [List.length_cons, List.length_append, univ] at h1 h3 ⊢
    omega
theorem itF_inv (p : GProgram) (v : List UInt8) : ∀ k, FInv p v k (itF p v k).1 (itF p v k).2
  | 0 => FInv.start p v
  | k + 1 => by
    have h := itF_inv p v k
    have e : itF p v (k + 1) = stepF p (itF p v k) := rfl
    rw [e]
    generalize itF p v k = s at h
    obtain ⟨o, n⟩ := s
    cases n with
    | nil => exact ⟨h.nd, h.un, h.ok, h.nx, h.cl, .inl rfl⟩
    | cons x r => exact h.step
theorem itF_stop {p : GProgram} {v : List UInt8} {k : Nat} (h : (itF p v k).2 = []) : ∀ j, itF p v (k + j) = itF p v k
  | 0 => rfl
  | j + 1 => by
    have e : itF p v (k + (j + 1)) = stepF p (itF p v (k + j)) := rfl
    rw [e, itF_stop h j]
    generalize itF p v k = s at h
    obtain ⟨o, n⟩ := s
    simp only at h
    subst h; rfl
theorem reach_of {p : GProgram} {v : List UInt8} {k : Nat} (hk : k ≤ 2 * univ p + 1) (h : (itF p v k).2 = []) : (itF p v k).1 = reachL p v := by
  rw [reachL, show 2 * univ p + 2 = k + (2 * univ p + 2 - k) by omega, itF_stop h]
theorem mem_reachL {p : GProgram} {v x : List UInt8} : x ∈ reachL p v ↔ Rch p v x := by
  have h := itF_inv p v (2 * univ p + 2)
  have hn : (itF p v (2 * univ p + 2)).2 = [] := by
    rcases h.ms with h | h
    · exact h
    · omega
  rw [hn] at h
  refine ⟨h.ok x, fun hx => ?_⟩
  have hc : ∀ y, y = v ∨ y ∈ reachL p v → ∀ z ∈ nextL p y, z ∈ reachL p v := fun y hy => (h.cl y hy).resolve_left (by simp)
  exact hx.mem (hc v (.inl rfl)) fun y hy => hc y (.inr hy)
theorem univ_len {p : GProgram} (h : progB p = true) : univ p ≤ 192 := by
  have h2 : ∀ r ∈ p.Rules, (bodyN r).length ≤ 8 := fun r hr => by
    have h1 := inpB_len h hr
    have h3 := atomsOf_le r
    rw [bodyN, List.length_map, List.length_drop]; omega
  have h3 : p.Rules.length ≤ 24 := by
    simp only [progB, Bool.and_eq_true, decide_eq_true_eq] at h; omega
  have : ∀ {l : List GRule}, (∀ r ∈ l, (bodyN r).length ≤ 8) → (l.flatMap bodyN).length ≤ 8 * l.length := by
    intro l
    induction l with
    | nil => intro _; simp
    | cons x l ih =>
      intro h
      have h1 := h x (by simp)
      have h2 := ih fun y hy => h y (by simp [hy])
      simp only [List.flatMap_cons, List.length_append, List.length_cons]
      omega
  have h4 := this h2
  rw [univ, allN']; omega
theorem body_len {p : GProgram} (h : progB p = true) {i : Nat} (hi : i < p.Rules.length) : (p.Rules.getD i default).Body.length ≤ 8 := inpB_len h (getD_mem hi)
theorem bodyD_snoc {r : GRule} {j : Nat} (h : j < ((atomsOf r).drop 1).length) : (((atomsOf r).drop 1).take (j + 1)).map GAtom.Name = (((atomsOf r).drop 1).take j).map GAtom.Name ++ [(((atomsOf r).drop 1).getD j default).Name] := m_snoc GAtom.Name default h
theorem putsC_app (l r s : List (List UInt8)) : putsS sLt (putsS sLt l r) s = putsS sLt l (r ++ s) := by simp [putsS, List.foldl_append]
theorem fil_flat_len {α β : Type} (q : α → Bool) (f : α → List β) : ∀ l : List α, ((l.filter q).flatMap f).length ≤ (l.flatMap f).length
  | [] => by simp
  | x :: l => by
    have h := fil_flat_len q f l
    simp only [List.filter_cons]
    split <;> simp only [List.flatMap_cons, List.length_append] <;> omega
def nextF (p : GProgram) (a : List UInt8) (n : Nat) : List (List UInt8) := ((p.Rules.take n).filter (leansR p a)).flatMap bodyN
theorem nextF_len (p : GProgram) (a : List UInt8) (n : Nat) : (nextF p a n).length ≤ univ p := by
  refine Nat.le_trans (fil_flat_len _ _ _) ?_
  have e : allN' p = (p.Rules.take n).flatMap bodyN ++ (p.Rules.drop n).flatMap bodyN := by rw [← List.flatMap_append, List.take_append_drop]; rfl
  rw [univ, e, List.length_append]; omega
@[go_sem] theorem nextF_zero (p : GProgram) (a : List UInt8) : nextF p a 0 = [] := rfl
@[go_sem] theorem putsN_nil (l : List (List UInt8)) : putsS sLt l [] = l := rfl
@[go_sem] theorem addL_nil (o : List (List UInt8)) : addL o [] = o := rfl
theorem nextF_all {p : GProgram} {a : List UInt8} {n : Nat} (h : ¬ n < p.Rules.length) : nextF p a n = nextL p a := by rw [nextF, take_all h, nextL]
theorem nextF_yes {p : GProgram} {a : List UInt8} {i : Nat} (hi : i < p.Rules.length) (h : leansR p a (p.Rules.getD i default) = true) : nextF p a (i + 1) = nextF p a i ++ bodyN (p.Rules.getD i default) := by
  rw [nextF, f_yes default hi h, List.flatMap_append, nextF]; simp
theorem nextF_no {p : GProgram} {a : List UInt8} {i : Nat} (hi : i < p.Rules.length) (h : leansR p a (p.Rules.getD i default) = false) : nextF p a (i + 1) = nextF p a i := by
  rw [nextF, f_no default hi h, nextF]
theorem names_prog {p : GProgram} (h : ((checkNames p).1 == 0) = true) : progB p = true := by
  cases hB : progB p with
  | true => rfl
  | false => rw [checkNames_no hB] at h; simp at h
theorem addL_len (o l : List (List UInt8)) : o.length ≤ (addL o l).length ∧ (addL o l).length ≤ o.length + l.length := by
  induction l generalizing o with
  | nil => exact ⟨Nat.le_refl _, Nat.le_refl _⟩
  | cons y l ih =>
    have e : addL o (y :: l) = addL (if y ∈ o then o else o ++ [y]) l := rfl
    rw [e]
    by_cases h : y ∈ o
    · have := ih o; rw [if_pos h]; simp only [List.length_cons]; omega
    · have := ih (o ++ [y]); rw [if_neg h]; simp only [List.length_append, List.length_cons, List.length_nil] at *; omega
theorem next_ne {p : GProgram} {a b : List UInt8} (h : b ∈ nextL p a) : kindOf p a = 3 := by
  obtain ⟨r, hr, _⟩ := List.mem_flatMap.1 h
  have h2 := (List.mem_filter.1 hr).2
  simp only [leansR, Bool.and_eq_true, beq_iff_eq] at h2
  rw [← h2.2]; exact h2.1.2
theorem rch_kind {p : GProgram} {a b : List UInt8} (h : Rch p a b) : kindOf p a = 3 := by
  induction h with
  | one h => exact next_ne h
  | step _ _ ih => exact ih
theorem leansR_alt (p : GProgram) (a : List UInt8) (r : GRule) : leansR p a r = (((r.Kind == 1) && (r.Head.Name == a)) && ((declOf p a).Kind == 3)) := by
  rw [leansR]
  cases h : (r.Head.Name == a) with
  | false => simp
  | true => rw [beq_iff_eq] at h; rw [h, kindOf]; simp
def ac_impl_isViewRule : ACode := q' ([o' 2 (.box 2 (.t 0)), o' 3 (.box 4 (.t 1)), b' 4 false]) (q' ([f' 5 0 3, l' 6 5, o' 7 (.bin .eql (.t 6) (k' 1)), m' 8 7, ⟨some 9, .ld true 2 (.t 2), some
  (8, true)⟩, ⟨some 10, .fa 1 (.t 3), some (8, true)⟩, ⟨some 11, .fa 0 (.t 10), some (8, true)⟩, ⟨some 12, .ld false 1 (.t 11), some (8, true)⟩, ⟨some 13, .call
  82 [.t 9, .t 12], some (8, true)⟩, ⟨some 14, .bin .eql (.t 13) (k' 3), some (8, true)⟩, o' 15 (.pick (.t 8) (.t 14) (.k (.v false [.c (.b false)]))), m' 4
  15]) .ret)
theorem hc_impl_isViewRule : Tryz.f79.body.bind (comp Tryz.prog Tryz.f79.ntmps) = some ac_impl_isViewRule := by kernel_rfl
theorem k_impl_isViewRule (p : GProgram) (r : GRule) : SpecO Tryz.prog 79 [(true, [.sl false [.i .i64 0, .s [], .i .i64 0] (p.Decls.map GDecl.cells), .sl false [.i .i64 0, .s [], .sl false [.s [], .i .i64 0, .s []] [], .sl false [.i .i64 0, .s [], .sl false [.s [], .i .i64 0, .s []] [], .i .i64 0, .s [], .i .i64 0, .s [], .s [], .i .i64 0, .s []] []] (p.Rules.map (GRule.cells false false))]), (true, [.i .i64 r.Kind, .s r.Head.Name, .sl false [.s [], .i .i64 0, .s []] (r.Head.Args.map GTerm.cells), .sl false [.i .i64 0, .s [], .sl false [.s [], .i .i64 0, .s []] [], .i .i64 0, .s [], .i .i64 0, .s [], .s [], .i .i64 0, .s []] (r.Body.map (GLit.cells false false))])] [] (.one (false, [.b (r.Kind == 1 && kindOf p r.Head.Name == 3)])) := by
  refine spec_of2 false false none Tryz.func79 hc_impl_isViewRule (rvs := [.t 4]) (hΓ := mkCtx_ok (deep := false) (l := [(82, [], c_impl_kindOf)]) ⟨c_impl_kindOf_ok, trivial⟩) (h := ?_)
  intro hb hE
  simp only [go_sem] at hb
  dsimp only [ac_impl_isViewRule, List.map_cons, List.map_nil, m', f', l', e', n', z', b', a', r', s', i', w', c', o', k', g', q']
  (try refine AX_AW ?_); simp only [go_sem]; (repeat' first | apply CJ.mk | intro hc); all_goals try ((repeat' first | apply And.intro | intro hs) <;> (try simp only [go_sem, Bool.and_eq_false_iff] at hs) <;> omega)
  all_goals (first | rfl | (rw [hc]; rfl) | trace_state)
noncomputable def c_impl_isViewRule : List V → Option (Prop × List (Nat × V) × R) := famQ (fun (x : GProgram × GRule) => k_impl_isViewRule x.1 x.2)
@[go_sem] theorem c_impl_isViewRule_eq (p_Decls : List GDecl) (p_Rules : List GRule) (r_Kind : Int) (r_Head_Name : List UInt8) (r_Head_Args : List GTerm) (r_Body : List GLit) : c_impl_isViewRule [(true, [.sl false [.i .i64 0, .s [], .i .i64 0] (p_Decls.map GDecl.cells), .sl false [.i .i64 0, .s [], .sl false [.s [], .i .i64 0, .s []] [], .sl false [.i .i64 0, .s [], .sl false [.s [], .i .i64 0, .s []] [], .i .i64 0, .s [], .i .i64 0, .s [], .s [], .i .i64 0, .s []] []] (p_Rules.map (GRule.cells false false))]), (true, [.i .i64 r_Kind, .s r_Head_Name, .sl false [.s [], .i .i64 0, .s []] (r_Head_Args.map GTerm.cells), .sl false [.i .i64 0, .s [], .sl false [.s [], .i .i64 0, .s []] [], .i .i64 0, .s [], .i .i64 0, .s [], .s [], .i .i64 0, .s []] (r_Body.map (GLit.cells false false))])] = some (True, [], .one (false, [.b ((GRule.mk r_Kind (GAtom.mk r_Head_Name r_Head_Args) r_Body).Kind == 1 && kindOf (GProgram.mk p_Decls p_Rules) (GRule.mk r_Kind (GAtom.mk r_Head_Name r_Head_Args) r_Body).Head.Name == 3)])) := famQ_eq _ (by rintro ⟨⟨_, _⟩, ⟨_, ⟨_, _⟩, _⟩⟩ ⟨⟨_, _⟩, ⟨_, ⟨_, _⟩, _⟩⟩ h; simp at h; simp_all) ((GProgram.mk p_Decls p_Rules), (GRule.mk r_Kind (GAtom.mk r_Head_Name r_Head_Args) r_Body))
theorem c_impl_isViewRule_ok : ∀ vs q o r, c_impl_isViewRule vs = some (q, o, r) → q → SpecO Tryz.prog 79 vs o r := famQ_ok _
def ac_impl_namesRight : ACode := q' ([o' 1 (.box 2 (.t 0)), b' 2 false]) (q' ([e' 6 2 1, c' 7 138 [6], m' 5 7, o' 8 (.ext (.t 5) 0), o' 9 (.ext (.t 5) 1), m' 3 8, m' 4 9]) (q' ([m' 10 3, o' 11
  (.bin .eql (.t 10) (k' 0)), m' 2 11]) .ret))
theorem hc_impl_namesRight : Tryz.f66.body.bind (comp Tryz.prog Tryz.f66.ntmps) = some ac_impl_namesRight := by kernel_rfl
theorem k_impl_namesRight (p : GProgram) : SpecO Tryz.prog 66 [(true, [.sl false [.i .i64 0, .s [], .i .i64 0] (p.Decls.map GDecl.cells), .sl false [.i .i64 0, .s [], .sl false [.s [], .i .i64 0, .s []] [], .sl false [.i .i64 0, .s [], .sl false [.s [], .i .i64 0, .s []] [], .i .i64 0, .s [], .i .i64 0, .s [], .s [], .i .i64 0, .s []] []] (p.Rules.map (GRule.cells false false))])] [] (.one (false, [.b ((checkNames p).1 == 0)])) := by
  refine spec_of2 false false none Tryz.func66 hc_impl_namesRight (rvs := [.t 2]) (hΓ := mkCtx_ok (deep := false) (l := [(138, [], c_impl_CheckNames)]) ⟨c_impl_CheckNames_ok, trivial⟩) (h := ?_)
  intro hb hE
  simp only [go_sem] at hb
  dsimp only [ac_impl_namesRight, List.map_cons, List.map_nil, m', f', l', e', n', z', b', a', r', s', i', w', c', o', k', g', q']
  (try refine AX_AW ?_); simp only [go_sem]; (repeat' first | apply CJ.mk | intro hc); all_goals try ((repeat' first | apply And.intro | intro hs) <;> (try simp only [go_sem, Bool.and_eq_false_iff] at hs) <;> omega)
  all_goals (first | rfl | trace_state)
noncomputable def c_impl_namesRight : List V → Option (Prop × List (Nat × V) × R) := famQ (fun (x : GProgram) => k_impl_namesRight x)
@[go_sem] theorem c_impl_namesRight_eq (p_Decls : List GDecl) (p_Rules : List GRule) : c_impl_namesRight [(true, [.sl false [.i .i64 0, .s [], .i .i64 0] (p_Decls.map GDecl.cells), .sl false [.i .i64 0, .s [], .sl false [.s [], .i .i64 0, .s []] [], .sl false [.i .i64 0, .s [], .sl false [.s [], .i .i64 0, .s []] [], .i .i64 0, .s [], .i .i64 0, .s [], .s [], .i .i64 0, .s []] []] (p_Rules.map (GRule.cells false false))])] = some (True, [], .one (false, [.b ((checkNames (GProgram.mk p_Decls p_Rules)).1 == 0)])) := famQ_eq _ (by rintro ⟨_, _⟩ ⟨_, _⟩ h; simp at h; simp_all) (GProgram.mk p_Decls p_Rules)
theorem c_impl_namesRight_ok : ∀ vs q o r, c_impl_namesRight vs = some (q, o, r) → q → SpecO Tryz.prog 66 vs o r := famQ_ok _
theorem stepF_ne {p : GProgram} {o nx : List (List UInt8)} (h : 0 < nx.length) : stepF p (o, nx) = (addL o (nextL p (nx.getD 0 [])), nx.drop 1 ++ (addL o (nextL p (nx.getD 0 []))).drop o.length) := by
  cases nx with
  | nil => simp at h
  | cons x r => rfl
theorem step_ms {p : GProgram} {v : List UInt8} {k : Nat} {o nx : List (List UInt8)} (h : FInv p v k o nx) (hm : k + 2 * (univ p - o.length) + nx.length ≤ 2 * univ p + 1) (hn : 0 < nx.length) : k + 1 + 2 * (univ p - (stepF p (o, nx)).1.length) + (stepF p (o, nx)).2.length ≤ 2 * univ p + 1 := by
  rw [stepF_ne hn]
  have h1 := nodup_len (addL_nodup (l := nextL p (nx.getD 0 [])) h.nd) fun y hy => (addL_mem.1 hy).elim (h.un y) next_all
  have h2 := (addL_len o (nextL p (nx.getD 0 []))).1
  simp only [List.length_append, List.length_drop, univ] at *
  omega
@[go_sem] theorem app_drop_self (l o : List (List UInt8)) : l ++ List.drop o.length o = l := by simp
theorem leans_no {p : GProgram} {a b : List UInt8} (h : ((checkNames p).1 == 0) = false) : leans p a b = false := by rw [leans, h]; rfl
theorem leans_kind {p : GProgram} {a b : List UInt8} (h : (kindOf p a == 3) = false) : leans p a b = false := by
  have : (reachS p a).contains b = false := by
    cases hc : (reachS p a).contains b with
    | false => rfl
    | true =>
      have := rch_kind (mem_reachS.1 (List.contains_iff_mem.1 hc))
      rw [this] at h; cases h
  rw [leans, this, Bool.and_false]
theorem leans_yes {p : GProgram} {a b : List UInt8} (h : ((checkNames p).1 == 0) = true) : leans p a b = (reachL p a).contains b := by
  rw [leans, h, Bool.true_and, contains_mem (mem_reachS.trans mem_reachL.symm)]
theorem leans_spec {p : GProgram} {a b : List UInt8} (h : ((checkNames p).1 == 0) = true) {l : List (List UInt8)} (h1 : ∀ x ∈ l, Rch p a x) (h2 : ∀ x ∈ nextL p a, x ∈ l) (h3 : ∀ x ∈ l, ∀ y ∈ nextL p x, y ∈ l) : leans p a b = l.contains b := by
  rw [leans, h, Bool.true_and, contains_mem (mem_reachS.trans ⟨fun h => h.mem h2 h3, fun h => h1 _ h⟩)]
theorem next_len {p : GProgram} (h : progB p = true) (a : List UInt8) : (putsS sLt [] (nextL p a)).length ≤ 192 := by
  have h1 := puts_len sLt (nextL p a) []
  have h2 := nextF_len p a p.Rules.length
  rw [nextF_all (by omega)] at h2
  have h3 := univ_len h
  simp only [List.length_nil] at h1
  omega
theorem ss_len2 {p : GProgram} (hB : progB p = true) {a : List UInt8} {l : List (List UInt8)} (hs : SS sLt l) (h : ∀ x ∈ l, Rch p a x) : l.length ≤ 192 :=
  Nat.le_trans (nodup_len (hs.nodup sLess_sto) fun x hx => (h x hx).all) (univ_len hB)
end Go.Aw
