/- What a view leans on. No condition. -/
import Derived.Test.YtojlgbkikicklaaGreatzcT2
import Derived.Test.YtojlgbkikicklaaGreatzcT7
namespace Go.Aw
open Go.Proofs
attribute [local irreducible] aft blk lpK retK AW SpecO
set_option linter.unusedVariables false
set_option linter.unusedSimpArgs false
set_option maxRecDepth 100000
def bodyN (r : GRule) : List (List UInt8) := ((atomsOf r).drop 1).map GAtom.Name
def leansR (p : GProgram) (a : List UInt8) (r : GRule) : Bool := (r.Kind == 1 && kindOf p r.Head.Name == 3) && r.Head.Name == a
def nextL (p : GProgram) (a : List UInt8) : List (List UInt8) := (p.Rules.filter (leansR p a)).flatMap bodyN
inductive Rch (p : GProgram) (a : List UInt8) : List UInt8 → Prop
  | one {b : List UInt8} : b ∈ nextL p a → Rch p a b
  | step {b c : List UInt8} : Rch p a b → c ∈ nextL p b → Rch p a c
def allN' (p : GProgram) : List (List UInt8) := p.Rules.flatMap bodyN
theorem next_all {p : GProgram} {a b : List UInt8} (h : b ∈ nextL p a) : b ∈ allN' p := by
  obtain ⟨r, hr, hb⟩ := List.mem_flatMap.1 h
  exact List.mem_flatMap.2 ⟨r, (List.mem_filter.1 hr).1, hb⟩
theorem Rch.all {p : GProgram} {a b : List UInt8} (h : Rch p a b) : b ∈ allN' p := by
  cases h with
  | one h => exact next_all h
  | step _ h => exact next_all h
theorem Rch.mem {p : GProgram} {a : List UInt8} {l : List (List UInt8)} (h1 : ∀ x ∈ nextL p a, x ∈ l) (h2 : ∀ x ∈ l, ∀ y ∈ nextL p x, y ∈ l) {b : List UInt8} (h : Rch p a b) : b ∈ l := by
  induction h with
  | one h => exact h1 _ h
  | step _ h ih => exact h2 _ ih _ h
open Classical in
noncomputable def reachS (p : GProgram) (a : List UInt8) : List (List UInt8) := (putsS sLt [] (allN' p)).filter fun v => decide (Rch p a v)
open Classical in
theorem mem_reachS {p : GProgram} {a v : List UInt8} : v ∈ reachS p a ↔ Rch p a v := by
  rw [reachS, List.mem_filter, mem_putsS, decide_eq_true_eq]
  exact ⟨fun h => h.2, fun h => ⟨.inr h.all, h⟩⟩
noncomputable def leans (p : GProgram) (a b : List UInt8) : Bool := (checkNames p).1 == 0 && (reachS p a).contains b
theorem contains_mem {l l' : List (List UInt8)} {b : List UInt8} (h : b ∈ l ↔ b ∈ l') : l.contains b = l'.contains b := by
  rw [Bool.eq_iff_iff, List.contains_iff_mem, List.contains_iff_mem, h]
/-- one name's successors are put behind, each once -/
def addL (o l : List (List UInt8)) : List (List UInt8) := l.foldl (fun o y => if y ∈ o then o else o ++ [y]) o
theorem addL_app (o l r : List (List UInt8)) : addL o (l ++ r) = addL (addL o l) r := by simp [addL, List.foldl_append]
theorem addL_pre : ∀ (l o : List (List UInt8)), ∃ s, addL o l = o ++ s ∧ (∀ x ∈ s, x ∈ l)
  | [], o => ⟨[], by simp [addL], by simp⟩
  | y :: l, o => by
    by_cases h : y ∈ o
    · obtain ⟨s, e, hs⟩ := addL_pre l o
      exact ⟨s, by rw [← e]; simp [addL, h], fun x hx => List.mem_cons_of_mem _ (hs x hx)⟩
    · obtain ⟨s, e, hs⟩ := addL_pre l (o ++ [y])
      refine ⟨y :: s, ?_, ?_⟩
      · have : addL o (y :: l) = addL (o ++ [y]) l := by simp [addL, h]
        rw [this, e]; simp
      · intro x hx
        rcases List.mem_cons.1 hx with rfl | hx
        · simp
        · exact List.mem_cons_of_mem _ (hs x hx)
theorem addL_mem {l o : List (List UInt8)} {x : List UInt8} : x ∈ addL o l ↔ x ∈ o ∨ x ∈ l := by
  induction l generalizing o with
  | nil => simp [addL]
  | cons y l ih =>
    have e : addL o (y :: l) = addL (if y ∈ o then o else o ++ [y]) l := rfl
    rw [e, ih]
    by_cases h : y ∈ o
    · simp only [h, if_true, List.mem_cons]
      constructor
      · rintro (h1 | h1); exact .inl h1; exact .inr (.inr h1)
      · rintro (h1 | rfl | h1); exact .inl h1; exact .inl h; exact .inr h1
    · rw [if_neg h, List.mem_append, List.mem_singleton, List.mem_cons, or_assoc]
theorem addL_nodup : ∀ {l o : List (List UInt8)}, o.Nodup → (addL o l).Nodup
  | [], o, h => h
  | y :: l, o, h => by
    have e : addL o (y :: l) = addL (if y ∈ o then o else o ++ [y]) l := rfl
    rw [e]
    by_cases hy : y ∈ o
    · rw [if_pos hy]; exact addL_nodup h
    · rw [if_neg hy]
      refine addL_nodup (List.nodup_append.2 ⟨h, by simp, ?_⟩)
      intro a ha b hb
      rw [List.mem_singleton] at hb
      rintro rfl
      exact hy (hb ▸ ha)
theorem addL_snoc_in {o l : List (List UInt8)} {x : List UInt8} (h : x ∈ addL o l) : addL o (l ++ [x]) = addL o l := by
  rw [addL_app]; exact if_pos h
theorem addL_snoc_out {o l : List (List UInt8)} {x : List UInt8} (h : ¬ x ∈ addL o l) : addL o (l ++ [x]) = addL o l ++ [x] := by
  rw [addL_app]; simp [addL] at h ⊢; intro h'; exact absurd h' h
def stepF (p : GProgram) : List (List UInt8) × List (List UInt8) → List (List UInt8) × List (List UInt8)
  | (o, []) => (o, [])
  | (o, x :: r) => (addL o (nextL p x), r ++ (addL o (nextL p x)).drop o.length)
def itF (p : GProgram) (v : List UInt8) : Nat → List (List UInt8) × List (List UInt8)
  | 0 => ([], [v])
  | k + 1 => stepF p (itF p v k)
def univ (p : GProgram) : Nat := (allN' p).length
def reachL (p : GProgram) (v : List UInt8) : List (List UInt8) := (itF p v (2 * univ p + 2)).1
structure FInv (p : GProgram) (v : List UInt8) (k : Nat) (o n : List (List UInt8)) : Prop where
  nd : o.Nodup
  un : ∀ x ∈ o, x ∈ allN' p
  ok : ∀ x ∈ o, Rch p v x
  nx : ∀ x ∈ n, x = v ∨ x ∈ o
  cl : ∀ x, x = v ∨ x ∈ o → x ∈ n ∨ ∀ y ∈ nextL p x, y ∈ o
  ms : n = [] ∨ k + 2 * (univ p - o.length) + n.length ≤ 2 * univ p + 1
theorem nodup_len {α : Type} [DecidableEq α] : ∀ {l m : List α}, l.Nodup → (∀ x ∈ l, x ∈ m) → l.length ≤ m.length
  | [], _, _, _ => Nat.zero_le _
  | x :: l, m, h, hm => by
    rw [List.nodup_cons] at h
    have h1 := nodup_len (l := l) (m := m.erase x) h.2 fun y hy => (List.mem_erase_of_ne (fun e => h.1 (by rw [← e]; exact hy))).2 (hm y (by simp [hy]))
    have h2 := List.length_erase_of_mem (hm x (by simp))
    have h3 : 0 < m.length := List.length_pos_of_mem (hm x (by simp))
    simp only [List.length_cons]; omega
theorem FInv.start (p : GProgram) (v : List UInt8) : FInv p v 0 [] [v] :=
  ⟨List.nodup_nil, by simp, by simp, by simp, fun x hx => .inl (by simpa using hx), .inr (by simp)⟩
theorem FInv.step {p : GProgram} {v : List UInt8} {k : Nat} {o r : List (List UInt8)} {x : List UInt8} (h : FInv p v k o (x :: r)) : FInv p v (k + 1) (addL o (nextL p x)) (r ++ (addL o (nextL p x)).drop o.length) := by
  obtain ⟨s, e, hs⟩ := addL_pre (nextL p x) o
  have hd : (addL o (nextL p x)).drop o.length = s := by rw [e]; simp
  have hx : x = v ∨ Rch p v x := (h.nx x (by simp)).imp id (h.ok x)
  have hR : ∀ y ∈ nextL p x, Rch p v y := fun y hy => by
    rcases hx with rfl | hx
    · exact .one hy
    · exact .step hx hy
  have hun : ∀ y ∈ addL o (nextL p x), y ∈ allN' p := fun y hy => (addL_mem.1 hy).elim (h.un y) next_all
  have hnd := addL_nodup (l := nextL p x) h.nd
  refine ⟨hnd, hun, fun y hy => (addL_mem.1 hy).elim (h.ok y) (hR y), ?_, ?_, ?_⟩
  · intro y hy
    rw [hd] at hy
    rcases List.mem_append.1 hy with hy | hy
    · exact (h.nx y (by simp [hy])).imp id fun hy => addL_mem.2 (.inl hy)
    · exact .inr (addL_mem.2 (.inr (hs y hy)))
  · intro y hy
    rw [hd]
    have old : y = v ∨ y ∈ o → y ∈ r ++ s ∨ ∀ z ∈ nextL p y, z ∈ addL o (nextL p x) := by
      intro hy
      rcases h.cl y hy with h1 | h1
      · rcases List.mem_cons.1 h1 with rfl | h1
        · exact .inr fun z hz => addL_mem.2 (.inr hz)
        · exact .inl (List.mem_append.2 (.inl h1))
      · exact .inr fun z hz => addL_mem.2 (.inl (h1 z hz))
    rcases hy with hy | hy
    · exact old (.inl hy)
    · rw [e] at hy
      rcases List.mem_append.1 hy with hy | hy
      · exact old (.inr hy)
      · exact .inl (List.mem_append.2 (.inr hy))
  · right
    have h1 := nodup_len hnd hun
    have h2 : (addL o (nextL p x)).length = o.length + s.length := by rw [e, List.length_append]
    have h3 := h.ms.resolve_left (by simp)
    rw [hd]
    simp only [List.length_cons, List.length_append, univ] at h1 h3 ⊢
    omega
theorem itF_inv (p : GProgram) (v : List UInt8) : ∀ k, FInv p v k (itF p v k).1 (itF p v k).2
  | 0 => FInv.start p v
  | k + 1 => by
    have h := itF_inv p v k
    have e : itF p v (k + 1) = stepF p (itF p v k) := rfl
    rw [e]
    generalize itF p v k = s at h
    obtain ⟨o, n⟩ := s
    cases n with
    | nil => exact ⟨h.nd, h.un, h.ok, h.nx, h.cl, .inl rfl⟩
    | cons x r => exact h.step
theorem itF_stop {p : GProgram} {v : List UInt8} {k : Nat} (h : (itF p v k).2 = []) : ∀ j, itF p v (k + j) = itF p v k
  | 0 => rfl
  | j + 1 => by
    have e : itF p v (k + (j + 1)) = stepF p (itF p v (k + j)) := rfl
    rw [e, itF_stop h j]
    generalize itF p v k = s at h
    obtain ⟨o, n⟩ := s
    simp only at h
    subst h; rfl
theorem reach_of {p : GProgram} {v : List UInt8} {k : Nat} (hk : k ≤ 2 * univ p + 1) (h : (itF p v k).2 = []) : (itF p v k).1 = reachL p v := by
  rw [reachL, show 2 * univ p + 2 = k + (2 * univ p + 2 - k) by omega, itF_stop h]
theorem mem_reachL {p : GProgram} {v x : List UInt8} : x ∈ reachL p v ↔ Rch p v x := by
  have h := itF_inv p v (2 * univ p + 2)
  have hn : (itF p v (2 * univ p + 2)).2 = [] := by
    rcases h.ms with h | h
    · exact h
    · omega
  rw [hn] at h
  refine ⟨h.ok x, fun hx => ?_⟩
  have hc : ∀ y, y = v ∨ y ∈ reachL p v → ∀ z ∈ nextL p y, z ∈ reachL p v := fun y hy => (h.cl y hy).resolve_left (by simp)
  exact hx.mem (hc v (.inl rfl)) fun y hy => hc y (.inr hy)
theorem univ_len {p : GProgram} (h : progB p = true) : univ p ≤ 192 := by
  have h2 : ∀ r ∈ p.Rules, (bodyN r).length ≤ 8 := fun r hr => by
    have h1 := inpB_len h hr
    have h3 := atomsOf_le r
    rw [bodyN, List.length_map, List.length_drop]; omega
  have h3 : p.Rules.length ≤ 24 := by
    simp only [progB, Bool.and_eq_true, decide_eq_true_eq] at h; omega
  have : ∀ {l : List GRule}, (∀ r ∈ l, (bodyN r).length ≤ 8) → (l.flatMap bodyN).length ≤ 8 * l.length := by
    intro l
    induction l with
    | nil => intro _; simp
    | cons x l ih =>
      intro h
      have h1 := h x (by simp)
      have h2 := ih fun y hy => h y (by simp [hy])
      simp only [List.flatMap_cons, List.length_append, List.length_cons]
      omega
  have h4 := this h2
  rw [univ, allN']; omega
theorem body_len {p : GProgram} (h : progB p = true) {i : Nat} (hi : i < p.Rules.length) : (p.Rules.getD i default).Body.length ≤ 8 := inpB_len h (getD_mem hi)
theorem bodyD_snoc {r : GRule} {j : Nat} (h : j < ((atomsOf r).drop 1).length) : (((atomsOf r).drop 1).take (j + 1)).map GAtom.Name = (((atomsOf r).drop 1).take j).map GAtom.Name ++ [(((atomsOf r).drop 1).getD j default).Name] := m_snoc GAtom.Name default h
theorem putsC_app (l r s : List (List UInt8)) : putsS sLt (putsS sLt l r) s = putsS sLt l (r ++ s) := by simp [putsS, List.foldl_append]
theorem fil_flat_len {α β : Type} (q : α → Bool) (f : α → List β) : ∀ l : List α, ((l.filter q).flatMap f).length ≤ (l.flatMap f).length
  | [] => by simp
  | x :: l => by
    have h := fil_flat_len q f l
    simp only [List.filter_cons]
    split <;> simp only [List.flatMap_cons, List.length_append] <;> omega
def nextF (p : GProgram) (a : List UInt8) (n : Nat) : List (List UInt8) := ((p.Rules.take n).filter (leansR p a)).flatMap bodyN
theorem nextF_len (p : GProgram) (a : List UInt8) (n : Nat) : (nextF p a n).length ≤ univ p := by
  refine Nat.le_trans (fil_flat_len _ _ _) ?_
  have e : allN' p = (p.Rules.take n).flatMap bodyN ++ (p.Rules.drop n).flatMap bodyN := by rw [← List.flatMap_append, List.take_append_drop]; rfl
  rw [univ, e, List.length_append]; omega
@[go_sem] theorem nextF_zero (p : GProgram) (a : List UInt8) : nextF p a 0 = [] := rfl
@[go_sem] theorem putsN_nil (l : List (List UInt8)) : putsS sLt l [] = l := rfl
@[go_sem] theorem addL_nil (o : List (List UInt8)) : addL o [] = o := rfl
theorem nextF_all {p : GProgram} {a : List UInt8} {n : Nat} (h : ¬ n < p.Rules.length) : nextF p a n = nextL p a := by rw [nextF, take_all h, nextL]
theorem nextF_yes {p : GProgram} {a : List UInt8} {i : Nat} (hi : i < p.Rules.length) (h : leansR p a (p.Rules.getD i default) = true) : nextF p a (i + 1) = nextF p a i ++ bodyN (p.Rules.getD i default) := by
  rw [nextF, f_yes default hi h, List.flatMap_append, nextF]; simp
theorem nextF_no {p : GProgram} {a : List UInt8} {i : Nat} (hi : i < p.Rules.length) (h : leansR p a (p.Rules.getD i default) = false) : nextF p a (i + 1) = nextF p a i := by
  rw [nextF, f_no default hi h, nextF]
theorem names_prog {p : GProgram} (h : ((checkNames p).1 == 0) = true) : progB p = true := by
  cases hB : progB p with
  | true => rfl
  | false => rw [checkNames_no hB] at h; simp at h
theorem addL_len (o l : List (List UInt8)) : o.length ≤ (addL o l).length ∧ (addL o l).length ≤ o.length + l.length := by
  induction l generalizing o with
  | nil => exact ⟨Nat.le_refl _, Nat.le_refl _⟩
  | cons y l ih =>
    have e : addL o (y :: l) = addL (if y ∈ o then o else o ++ [y]) l := rfl
    rw [e]
    by_cases h : y ∈ o
    · have := ih o; rw [if_pos h]; simp only [List.length_cons]; omega
    · have := ih (o ++ [y]); rw [if_neg h]; simp only [List.length_append, List.length_cons, List.length_nil] at *; omega
theorem next_ne {p : GProgram} {a b : List UInt8} (h : b ∈ nextL p a) : kindOf p a = 3 := by
  obtain ⟨r, hr, _⟩ := List.mem_flatMap.1 h
  have h2 := (List.mem_filter.1 hr).2
  simp only [leansR, Bool.and_eq_true, beq_iff_eq] at h2
  rw [← h2.2]; exact h2.1.2
theorem rch_kind {p : GProgram} {a b : List UInt8} (h : Rch p a b) : kindOf p a = 3 := by
  induction h with
  | one h => exact next_ne h
  | step _ _ ih => exact ih
theorem leansR_alt (p : GProgram) (a : List UInt8) (r : GRule) : leansR p a r = (((r.Kind == 1) && (r.Head.Name == a)) && ((declOf p a).Kind == 3)) := by
  rw [leansR]
  cases h : (r.Head.Name == a) with
  | false => simp
  | true => rw [beq_iff_eq] at h; rw [h, kindOf]; simp
def ac_impl_isViewRule : ACode := .seq (.reg false [⟨some 2, .box 2 (.t 0), none⟩, ⟨some 3, .box 4 (.t 1), none⟩, ⟨some 4, .mov (.k (.v false [.c (.b false)])), none⟩]) (.seq (.reg false [⟨some
  5, .fa 0 (.t 3), none⟩, ⟨some 6, .ld false 1 (.t 5), none⟩, ⟨some 7, .bin .eql (.t 6) (.k (.v false [.c (.i .i64 1)])), none⟩, ⟨some 8, .mov (.t 7), none⟩,
  ⟨some 9, .ld true 2 (.t 2), some (8, true)⟩, ⟨some 10, .fa 1 (.t 3), some (8, true)⟩, ⟨some 11, .fa 0 (.t 10), some (8, true)⟩, ⟨some 12, .ld false 1 (.t 11),
  some (8, true)⟩, ⟨some 13, .call 65 [.t 9, .t 12], some (8, true)⟩, ⟨some 14, .bin .eql (.t 13) (.k (.v false [.c (.i .i64 3)])), some (8, true)⟩, ⟨some 15,
  .pick (.t 8) (.t 14) (.k (.v false [.c (.b false)])), none⟩, ⟨some 4, .mov (.t 15), none⟩]) .ret)
theorem hc_impl_isViewRule : Tryz.f87.body.bind (comp Tryz.prog Tryz.f87.ntmps) = some ac_impl_isViewRule := by kernel_rfl
theorem k_impl_isViewRule (p : GProgram) (r : GRule) : SpecO Tryz.prog 87 [(true, [.sl false [.i .i64 0, .s [], .i .i64 0] (p.Decls.map GDecl.cells), .sl false [.i .i64 0, .s [], .sl false [.s [], .i .i64 0, .s []] [], .sl false [.i .i64 0, .s [], .sl false [.s [], .i .i64 0, .s []] [], .i .i64 0, .s [], .i .i64 0, .s [], .s [], .i .i64 0, .s []] []] (p.Rules.map (GRule.cells false false))]), (true, [.i .i64 r.Kind, .s r.Head.Name, .sl false [.s [], .i .i64 0, .s []] (r.Head.Args.map GTerm.cells), .sl false [.i .i64 0, .s [], .sl false [.s [], .i .i64 0, .s []] [], .i .i64 0, .s [], .i .i64 0, .s [], .s [], .i .i64 0, .s []] (r.Body.map (GLit.cells false false))])] [] (.one (false, [.b (r.Kind == 1 && kindOf p r.Head.Name == 3)])) := by
  refine spec_of2 false false none Tryz.func87 hc_impl_isViewRule (rvs := [.t 4]) (hΓ := mkCtx_ok (deep := false) (l := [(65, [], c_impl_kindOf)]) ⟨c_impl_kindOf_ok, trivial⟩) (h := ?_)
  intro hb hE
  simp only [go_sem] at hb
  unfold ac_impl_isViewRule
  (try refine AX_AW ?_); simp only [go_sem]; (repeat' first | apply CJ.mk | intro hc); all_goals try ((repeat' first | apply And.intro | intro hs) <;> (try simp only [go_sem, Bool.and_eq_false_iff] at hs) <;> omega)
  all_goals (first | rfl | (rw [hc]; rfl) | trace_state)
noncomputable def c_impl_isViewRule : List V → Option (Prop × List (Nat × V) × R) := famQ (fun (x : GProgram × GRule) => k_impl_isViewRule x.1 x.2)
@[go_sem] theorem c_impl_isViewRule_eq (p_Decls : List GDecl) (p_Rules : List GRule) (r_Kind : Int) (r_Head_Name : List UInt8) (r_Head_Args : List GTerm) (r_Body : List GLit) : c_impl_isViewRule [(true, [.sl false [.i .i64 0, .s [], .i .i64 0] (p_Decls.map GDecl.cells), .sl false [.i .i64 0, .s [], .sl false [.s [], .i .i64 0, .s []] [], .sl false [.i .i64 0, .s [], .sl false [.s [], .i .i64 0, .s []] [], .i .i64 0, .s [], .i .i64 0, .s [], .s [], .i .i64 0, .s []] []] (p_Rules.map (GRule.cells false false))]), (true, [.i .i64 r_Kind, .s r_Head_Name, .sl false [.s [], .i .i64 0, .s []] (r_Head_Args.map GTerm.cells), .sl false [.i .i64 0, .s [], .sl false [.s [], .i .i64 0, .s []] [], .i .i64 0, .s [], .i .i64 0, .s [], .s [], .i .i64 0, .s []] (r_Body.map (GLit.cells false false))])] = some (True, [], .one (false, [.b ((GRule.mk r_Kind (GAtom.mk r_Head_Name r_Head_Args) r_Body).Kind == 1 && kindOf (GProgram.mk p_Decls p_Rules) (GRule.mk r_Kind (GAtom.mk r_Head_Name r_Head_Args) r_Body).Head.Name == 3)])) := famQ_eq _ (by rintro ⟨⟨_, _⟩, ⟨_, ⟨_, _⟩, _⟩⟩ ⟨⟨_, _⟩, ⟨_, ⟨_, _⟩, _⟩⟩ h; simp at h; simp_all) ((GProgram.mk p_Decls p_Rules), (GRule.mk r_Kind (GAtom.mk r_Head_Name r_Head_Args) r_Body))
theorem c_impl_isViewRule_ok : ∀ vs q o r, c_impl_isViewRule vs = some (q, o, r) → q → SpecO Tryz.prog 87 vs o r := famQ_ok _
def ac_impl_namesRight : ACode := .seq (.reg false [⟨some 1, .box 2 (.t 0), none⟩, ⟨some 2, .mov (.k (.v false [.c (.b false)])), none⟩]) (.seq (.reg false [⟨some 6, .ld true 2 (.t 1), none⟩,
  ⟨some 7, .call 126 [.t 6], none⟩, ⟨some 5, .mov (.t 7), none⟩, ⟨some 8, .ext (.t 5) 0, none⟩, ⟨some 9, .ext (.t 5) 1, none⟩, ⟨some 3, .mov (.t 8), none⟩,
  ⟨some 4, .mov (.t 9), none⟩]) (.seq (.reg false [⟨some 10, .mov (.t 3), none⟩, ⟨some 11, .bin .eql (.t 10) (.k (.v false [.c (.i .i64 0)])), none⟩, ⟨some 2,
  .mov (.t 11), none⟩]) .ret))
theorem hc_impl_namesRight : Tryz.f64.body.bind (comp Tryz.prog Tryz.f64.ntmps) = some ac_impl_namesRight := by kernel_rfl
theorem k_impl_namesRight (p : GProgram) : SpecO Tryz.prog 64 [(true, [.sl false [.i .i64 0, .s [], .i .i64 0] (p.Decls.map GDecl.cells), .sl false [.i .i64 0, .s [], .sl false [.s [], .i .i64 0, .s []] [], .sl false [.i .i64 0, .s [], .sl false [.s [], .i .i64 0, .s []] [], .i .i64 0, .s [], .i .i64 0, .s [], .s [], .i .i64 0, .s []] []] (p.Rules.map (GRule.cells false false))])] [] (.one (false, [.b ((checkNames p).1 == 0)])) := by
  refine spec_of2 false false none Tryz.func64 hc_impl_namesRight (rvs := [.t 2]) (hΓ := mkCtx_ok (deep := false) (l := [(126, [], c_impl_CheckNames)]) ⟨c_impl_CheckNames_ok, trivial⟩) (h := ?_)
  intro hb hE
  simp only [go_sem] at hb
  unfold ac_impl_namesRight
  (try refine AX_AW ?_); simp only [go_sem]; (repeat' first | apply CJ.mk | intro hc); all_goals try ((repeat' first | apply And.intro | intro hs) <;> (try simp only [go_sem, Bool.and_eq_false_iff] at hs) <;> omega)
  all_goals (first | rfl | trace_state)
noncomputable def c_impl_namesRight : List V → Option (Prop × List (Nat × V) × R) := famQ (fun (x : GProgram) => k_impl_namesRight x)
@[go_sem] theorem c_impl_namesRight_eq (p_Decls : List GDecl) (p_Rules : List GRule) : c_impl_namesRight [(true, [.sl false [.i .i64 0, .s [], .i .i64 0] (p_Decls.map GDecl.cells), .sl false [.i .i64 0, .s [], .sl false [.s [], .i .i64 0, .s []] [], .sl false [.i .i64 0, .s [], .sl false [.s [], .i .i64 0, .s []] [], .i .i64 0, .s [], .i .i64 0, .s [], .s [], .i .i64 0, .s []] []] (p_Rules.map (GRule.cells false false))])] = some (True, [], .one (false, [.b ((checkNames (GProgram.mk p_Decls p_Rules)).1 == 0)])) := famQ_eq _ (by rintro ⟨_, _⟩ ⟨_, _⟩ h; simp at h; simp_all) (GProgram.mk p_Decls p_Rules)
theorem c_impl_namesRight_ok : ∀ vs q o r, c_impl_namesRight vs = some (q, o, r) → q → SpecO Tryz.prog 64 vs o r := famQ_ok _
def ac_spec_l19Next : ACode := .seq (.reg false [⟨some 2, .box 2 (.t 0), none⟩, ⟨some 4, .mov (.k (.v false [.nl [.s []]])), none⟩]) (.seq (.reg false [⟨some 9, .bsl 1 0 [.s] [], none⟩, ⟨some
  5, .mov (.t 9), none⟩]) (.seq (.seq (.reg false [⟨some 10, .fa 1 (.t 2), none⟩, ⟨some 11, .ld false 1 (.t 10), none⟩, ⟨some 12, .len (.t 11), none⟩, ⟨some 13,
  .mov (.k (.v false [.c (.i .i64 0)])), none⟩]) (.block 0 (.loop (.seq (.reg false [⟨some 14, .bin .lss (.t 13) (.t 12), none⟩]) (.seq (.cond (.t 14) .skip
  (.exit 0)) (.seq (.block 1 (.seq (.reg false [⟨some 15, .mov (.t 13), none⟩, ⟨some 6, .mov (.t 15), none⟩]) (.seq (.reg false [⟨some 16, .fa 1 (.t 2), none⟩,
  ⟨some 17, .ld false 1 (.t 16), none⟩, ⟨some 18, .mov (.t 6), none⟩, ⟨some 19, .ia 4 (.t 17) (.t 18), none⟩, ⟨some 20, .fa 0 (.t 19), none⟩, ⟨some 21, .ld
  false 1 (.t 20), none⟩, ⟨some 22, .bin .eql (.t 21) (.k (.v false [.c (.i .i64 1)])), none⟩, ⟨some 23, .mov (.t 22), none⟩, ⟨some 24, .fa 1 (.t 2), some (23,
  true)⟩, ⟨some 25, .ld false 1 (.t 24), some (23, true)⟩, ⟨some 26, .mov (.t 6), some (23, true)⟩, ⟨some 27, .ia 4 (.t 25) (.t 26), some (23, true)⟩, ⟨some 28,
  .fa 1 (.t 27), some (23, true)⟩, ⟨some 29, .fa 0 (.t 28), some (23, true)⟩, ⟨some 30, .ld false 1 (.t 29), some (23, true)⟩, ⟨some 31, .mov (.t 1), some (23,
  true)⟩, ⟨some 32, .bin .eql (.t 30) (.t 31), some (23, true)⟩, ⟨some 33, .pick (.t 23) (.t 32) (.k (.v false [.c (.b false)])), none⟩, ⟨some 34, .mov (.t 33),
  none⟩, ⟨some 35, .ld true 2 (.t 2), some (34, true)⟩, ⟨some 36, .mov (.t 1), some (34, true)⟩, ⟨some 37, .call 123 [.t 35, .t 36], some (34, true)⟩, ⟨some 38,
  .fl false 0 1 (.t 37), some (34, true)⟩, ⟨some 39, .bin .eql (.t 38) (.k (.v false [.c (.i .i64 3)])), some (34, true)⟩, ⟨some 40, .pick (.t 34) (.t 39) (.k
  (.v false [.c (.b false)])), none⟩]) (.cond (.t 40) (.seq (.reg false [⟨some 41, .fa 1 (.t 2), none⟩, ⟨some 42, .ld false 1 (.t 41), none⟩, ⟨some 43, .mov (.t
  6), none⟩, ⟨some 44, .ia 4 (.t 42) (.t 43), none⟩, ⟨some 45, .ld true 4 (.t 44), none⟩, ⟨some 46, .call 100 [.t 45], none⟩, ⟨some 47, .slc 2 (.t 46) (some (.k
  (.v false [.c (.i .i64 1)]))) none none, none⟩, ⟨some 48, .len (.t 47), none⟩, ⟨some 49, .mov (.k (.v false [.c (.i .i64 0)])), none⟩]) (.block 2 (.loop (.seq
  (.reg false [⟨some 50, .bin .lss (.t 49) (.t 48), none⟩]) (.seq (.cond (.t 50) .skip (.exit 2)) (.seq (.block 3 (.seq (.reg false [⟨some 51, .ia 2 (.t 47) (.t
  49), none⟩, ⟨some 52, .ld true 2 (.t 51), none⟩, ⟨some 8, .alloc [.s, .sl [.s [], .i .i64 0, .s []]], none⟩, ⟨none, .st 2 (.t 8) (.t 52), none⟩]) (.reg false
  [⟨some 53, .mov (.t 5), none⟩, ⟨some 54, .fa 0 (.t 8), none⟩, ⟨some 55, .ld false 1 (.t 54), none⟩, ⟨some 56, .call 60 [.t 53, .t 55], none⟩, ⟨some 5, .mov
  (.t 56), none⟩]))) (.reg false [⟨some 57, .bin .add (.t 49) (.k (.v false [.c (.i .i64 1)])), none⟩, ⟨some 49, .mov (.t 57), none⟩]))))))) .skip)))) (.reg
  false [⟨some 58, .bin .add (.t 13) (.k (.v false [.c (.i .i64 1)])), none⟩, ⟨some 13, .mov (.t 58), none⟩]))))))) (.seq (.reg false [⟨some 59, .mov (.t 5),
  none⟩, ⟨some 4, .mov (.t 59), none⟩]) .ret)))
theorem hc_spec_l19Next : Tryz.f59.body.bind (comp Tryz.prog Tryz.f59.ntmps) = some ac_spec_l19Next := by kernel_rfl
theorem k_spec_l19Next (p : GProgram) (a : List UInt8) (hpre : progB p = true) : SpecO Tryz.prog 59 [(true, [.sl false [.i .i64 0, .s [], .i .i64 0] (p.Decls.map GDecl.cells), .sl false [.i .i64 0, .s [], .sl false [.s [], .i .i64 0, .s []] [], .sl false [.i .i64 0, .s [], .sl false [.s [], .i .i64 0, .s []] [], .i .i64 0, .s [], .i .i64 0, .s [], .s [], .i .i64 0, .s []] []] (p.Rules.map (GRule.cells false false))]), (false, [.s a])] [] (.one (false, [.sl false [.s []] ((putsS sLt [] (nextL p a)).map cStr)])) := by
  refine spec_of2 false true none Tryz.func59 hc_spec_l19Next (rvs := [.t 4]) (hΓ := mkCtx_ok (deep := false) (l := [(100, [], c_spec_l17Atoms), (123, [], c_spec_l17Decl), (60, [0], c_spec_l16Put_o)]) ⟨c_spec_l17Atoms_ok, c_spec_l17Decl_ok, c_spec_l16Put_o_ok, trivial⟩) (h := ?_)
  intro hb hE
  simp only [go_sem] at hb
  unfold ac_spec_l19Next
  have hU := univ_len hpre
  (try refine AX_AW ?_); simp only [go_sem, cut_one]; (repeat' first | apply CJ.mk | intro hc); all_goals try ((repeat' first | apply And.intro | intro hs) <;> (try simp only [go_sem, Bool.and_eq_false_iff] at hs) <;> omega)
  refine aw_loop2 false [(false, 5, 0, 100010)] [1, 2, 12] [4] [] (fun i : {i : Nat // i ≤ p.Rules.length} => [(5, .v false [.ow 100010]), (13, slV (.i .i64 i.1))]) (fun i => []) (fun i => [(100010, [.s []], (putsS sLt [] (nextF p a i.1)).map cStr)]) (fun i => p.Rules.length - i.1) (⟨0, by simp⟩) _ (by simp only [go_sem, cut_one]; try rfl) ?_ ?_
  · simp only [go_sem, cut_one]
    all_goals first | omega | ((repeat' apply And.intro) <;> first | omega | rfl | skip)
  intro S0 hS0 i
  simp only [go_sem, cut_one] at hS0
  obtain ⟨n, hn⟩ := i
  have hlen := nextF_len p a n
  generalize hO : putsS sLt [] (nextF p a n) = O
  have hOl : O.length ≤ 192 := by
    have := puts_len sLt (nextF p a n) []
    rw [hO] at this
    simp only [List.length_nil] at this; omega
  (try refine AX_AW ?_); simp only [go_sem, cut_one, hS0]; (repeat' first | apply CJ.mk | intro hc); all_goals try ((repeat' first | apply And.intro | intro hs) <;> (try simp only [go_sem, Bool.and_eq_false_iff] at hs) <;> omega)
  · exact body_len hpre (by omega)
  · have := atomsOf_len (p.Rules.getD n default); omega
  · have hq : leansR p a (p.Rules.getD n default) = true := by rw [leansR_alt, hc.1.1, hc.1.2, hc.2]; rfl
    have hdl : ((atomsOf (p.Rules.getD n default)).drop 1).length ≤ 8 := by
      have h1 := atomsOf_le (p.Rules.getD n default)
      have h2 := body_len hpre (show n < p.Rules.length by omega)
      rw [List.length_drop]; omega
    clear hc
    refine aw_loop2 false [(false, 5, 0, 100010)] [1, 2, 12, 13, 47, 48] [4] [6016] (fun i : {j : Nat // j ≤ ((atomsOf (p.Rules.getD n default)).drop 1).length} => [(5, .v false [.ow 100010]), (49, slV (.i .i64 i.1))]) (fun i => []) (fun i => [(100010, [.s []], (putsS sLt O ((((atomsOf (p.Rules.getD n default)).drop 1).take i.1).map GAtom.Name)).map cStr)]) (fun i => ((atomsOf (p.Rules.getD n default)).drop 1).length - i.1) (⟨0, by simp⟩) _ (by simp only [go_sem, cut_one, hS0]; try rfl) ?_ ?_
    · simp only [go_sem, cut_one, hS0]
      all_goals first | omega | ((repeat' apply And.intro) <;> first | omega | rfl | skip)
    intro S1 hS1 i
    simp only [go_sem, cut_one, hS0] at hS1
    obtain ⟨j, hj⟩ := i
    have h2 := puts_len sLt ((((atomsOf (p.Rules.getD n default)).drop 1).take j).map GAtom.Name) O
    rw [List.length_map, List.length_take] at h2
    (try refine AX_AW ?_); simp only [go_sem, cut_one, hS0, hS1]; (repeat' first | apply CJ.mk | intro hc); all_goals try ((repeat' first | apply And.intro | intro hs) <;> (try simp only [go_sem, Bool.and_eq_false_iff] at hs) <;> omega)
    all_goals first
      | omega
      | ((refine lpK_n2 (⟨j + 1, by omega⟩) _ (by simp only [go_sem, cut_one, hS0]; try rfl) ?_; simp only [go_sem, cut_one, hS0, hS1]; first | done | ((repeat' apply And.intro) <;> first | omega | (refine w64 ?_ ?_ ?_ <;> omega) | rfl | skip)); rw [bodyD_snoc (by omega), puts_snoc]; done)
      | ((refine lpK_n2 (⟨n + 1, by omega⟩) _ (by simp only [go_sem, cut_one, hS0]; try rfl) ?_; simp only [go_sem, cut_one, hS0, hS1]; first | done | ((repeat' apply And.intro) <;> first | omega | (refine w64 ?_ ?_ ?_ <;> omega) | rfl | skip)); rw [take_all (by omega), nextF_yes (by omega) hq, ← putsC_app, hO]; first | done | rfl | trace_state)
      | trace_state
  · have hq : leansR p a (p.Rules.getD n default) = false := by rw [leansR_alt]; exact hc
    (refine lpK_n2 (⟨n + 1, by omega⟩) _ (by simp only [go_sem, cut_one, hS0]; try rfl) ?_; simp only [go_sem, cut_one, hS0]; first | done | ((repeat' apply And.intro) <;> first | omega | (refine w64 ?_ ?_ ?_ <;> omega) | rfl | skip))
    rw [nextF_no (by omega) hq, hO]
  · rw [← hO, nextF_all (by omega)]
noncomputable def c_spec_l19Next : List V → Option (Prop × List (Nat × V) × R) := famP (fun (x : GProgram × (List UInt8)) h => k_spec_l19Next x.1 x.2 h)
@[go_sem] theorem c_spec_l19Next_eq (p_Decls : List GDecl) (p_Rules : List GRule) (a : List UInt8) : c_spec_l19Next [(true, [.sl false [.i .i64 0, .s [], .i .i64 0] (p_Decls.map GDecl.cells), .sl false [.i .i64 0, .s [], .sl false [.s [], .i .i64 0, .s []] [], .sl false [.i .i64 0, .s [], .sl false [.s [], .i .i64 0, .s []] [], .i .i64 0, .s [], .i .i64 0, .s [], .s [], .i .i64 0, .s []] []] (p_Rules.map (GRule.cells false false))]), (false, [.s a])] = some (progB (GProgram.mk p_Decls p_Rules) = true, [], .one (false, [.sl false [.s []] ((putsS sLt [] (nextL (GProgram.mk p_Decls p_Rules) a)).map cStr)])) := famP_eq _ (by rintro ⟨⟨_, _⟩, _⟩ ⟨⟨_, _⟩, _⟩ h; simp at h; simp_all) ((GProgram.mk p_Decls p_Rules), a)
theorem c_spec_l19Next_ok : ∀ vs q o r, c_spec_l19Next vs = some (q, o, r) → q → SpecO Tryz.prog 59 vs o r := famP_ok _
theorem stepF_ne {p : GProgram} {o nx : List (List UInt8)} (h : 0 < nx.length) : stepF p (o, nx) = (addL o (nextL p (nx.getD 0 [])), nx.drop 1 ++ (addL o (nextL p (nx.getD 0 []))).drop o.length) := by
  cases nx with
  | nil => simp at h
  | cons x r => rfl
theorem step_ms {p : GProgram} {v : List UInt8} {k : Nat} {o nx : List (List UInt8)} (h : FInv p v k o nx) (hm : k + 2 * (univ p - o.length) + nx.length ≤ 2 * univ p + 1) (hn : 0 < nx.length) : k + 1 + 2 * (univ p - (stepF p (o, nx)).1.length) + (stepF p (o, nx)).2.length ≤ 2 * univ p + 1 := by
  rw [stepF_ne hn]
  have h1 := nodup_len (addL_nodup (l := nextL p (nx.getD 0 [])) h.nd) fun y hy => (addL_mem.1 hy).elim (h.un y) next_all
  have h2 := (addL_len o (nextL p (nx.getD 0 []))).1
  simp only [List.length_append, List.length_drop, univ] at *
  omega
@[go_sem] theorem app_drop_self (l o : List (List UInt8)) : l ++ List.drop o.length o = l := by simp
def ac_impl_reached : ACode := .seq (.reg false [⟨some 2, .box 2 (.t 0), none⟩, ⟨some 4, .mov (.k (.v false [.nl [.s []]])), none⟩]) (.seq (.reg false [⟨some 12, .bsl 1 0 [.s] [], none⟩,
  ⟨some 5, .mov (.t 12), none⟩]) (.seq (.reg false [⟨some 13, .mov (.t 1), none⟩, ⟨some 14, .bsl 1 1 [.s] [(0, .t 13)], none⟩, ⟨some 6, .mov (.t 14), none⟩])
  (.seq (.block 0 (.loop (.seq (.seq (.reg false [⟨some 15, .mov (.t 6), none⟩, ⟨some 16, .len (.t 15), none⟩, ⟨some 17, .bin .gtr (.t 16) (.k (.v false [.c (.i
  .i64 0)])), none⟩]) (.cond (.t 17) .skip (.exit 0))) (.block 1 (.seq (.reg false [⟨some 18, .mov (.t 6), none⟩, ⟨some 19, .ia 1 (.t 18) (.k (.v false [.c (.i
  .i64 0)])), none⟩, ⟨some 20, .ld false 1 (.t 19), none⟩, ⟨some 7, .mov (.t 20), none⟩]) (.seq (.reg false [⟨some 21, .mov (.t 6), none⟩, ⟨some 22, .slc 1 (.t
  21) (some (.k (.v false [.c (.i .i64 1)]))) none none, none⟩, ⟨some 6, .mov (.t 22), none⟩]) (.seq (.reg false [⟨some 23, .fa 1 (.t 2), none⟩, ⟨some 24, .ld
  false 1 (.t 23), none⟩, ⟨some 25, .len (.t 24), none⟩, ⟨some 26, .mov (.k (.v false [.c (.i .i64 0)])), none⟩]) (.block 2 (.loop (.seq (.reg false [⟨some 27,
  .bin .lss (.t 26) (.t 25), none⟩]) (.seq (.cond (.t 27) .skip (.exit 2)) (.seq (.block 3 (.seq (.reg false [⟨some 28, .ia 4 (.t 24) (.t 26), none⟩, ⟨some 29,
  .ld true 4 (.t 28), none⟩, ⟨some 9, .alloc [.i .i64, .s, .sl [.s [], .i .i64 0, .s []], .sl [.i .i64 0, .s [], .sl false [.s [], .i .i64 0, .s []] [], .i .i64
  0, .s [], .i .i64 0, .s [], .s [], .i .i64 0, .s []]], none⟩, ⟨none, .st 4 (.t 9) (.t 29), none⟩]) (.seq (.seq (.reg false [⟨some 30, .ld true 2 (.t 2),
  none⟩, ⟨some 31, .ld true 4 (.t 9), none⟩, ⟨some 32, .call 87 [.t 30, .t 31], none⟩, ⟨some 33, .not (.t 32), none⟩, ⟨some 34, .mov (.t 33), none⟩, ⟨some 35,
  .fa 1 (.t 9), some (34, false)⟩, ⟨some 36, .fa 0 (.t 35), some (34, false)⟩, ⟨some 37, .ld false 1 (.t 36), some (34, false)⟩, ⟨some 38, .mov (.t 7), some
  (34, false)⟩, ⟨some 39, .bin .neq (.t 37) (.t 38), some (34, false)⟩, ⟨some 40, .pick (.t 34) (.k (.v false [.c (.b true)])) (.t 39), none⟩]) (.cond (.t 40)
  (.exit 3) .skip)) (.seq (.reg false [⟨some 41, .ld true 4 (.t 9), none⟩, ⟨some 42, .call 129 [.t 41], none⟩, ⟨some 43, .slc 2 (.t 42) (some (.k (.v false [.c
  (.i .i64 1)]))) none none, none⟩, ⟨some 44, .len (.t 43), none⟩, ⟨some 45, .mov (.k (.v false [.c (.i .i64 0)])), none⟩]) (.block 4 (.loop (.seq (.reg false
  [⟨some 46, .bin .lss (.t 45) (.t 44), none⟩]) (.seq (.cond (.t 46) .skip (.exit 4)) (.seq (.block 5 (.seq (.reg false [⟨some 47, .ia 2 (.t 43) (.t 45), none⟩,
  ⟨some 48, .ld true 2 (.t 47), none⟩, ⟨some 11, .alloc [.s, .sl [.s [], .i .i64 0, .s []]], none⟩, ⟨none, .st 2 (.t 11) (.t 48), none⟩]) (.seq (.reg false
  [⟨some 49, .mov (.t 5), none⟩, ⟨some 50, .fa 0 (.t 11), none⟩, ⟨some 51, .ld false 1 (.t 50), none⟩, ⟨some 52, .call 66 [.t 49, .t 51], none⟩, ⟨some 53, .not
  (.t 52), none⟩]) (.cond (.t 53) (.seq (.reg false [⟨some 54, .mov (.t 5), none⟩, ⟨some 55, .fa 0 (.t 11), none⟩, ⟨some 56, .ld false 1 (.t 55), none⟩, ⟨some
  57, .bsl 1 1 [.s] [(0, .t 56)], none⟩, ⟨some 58, .app 1 16 [.s] (.t 54) (.t 57), none⟩, ⟨some 5, .mov (.t 58), none⟩]) (.reg false [⟨some 59, .mov (.t 6),
  none⟩, ⟨some 60, .fa 0 (.t 11), none⟩, ⟨some 61, .ld false 1 (.t 60), none⟩, ⟨some 62, .bsl 1 1 [.s] [(0, .t 61)], none⟩, ⟨some 63, .app 1 16 [.s] (.t 59) (.t
  62), none⟩, ⟨some 6, .mov (.t 63), none⟩])) .skip)))) (.reg false [⟨some 64, .bin .add (.t 45) (.k (.v false [.c (.i .i64 1)])), none⟩, ⟨some 45, .mov (.t
  64), none⟩])))))))))) (.reg false [⟨some 65, .bin .add (.t 26) (.k (.v false [.c (.i .i64 1)])), none⟩, ⟨some 26, .mov (.t 65), none⟩]))))))))))))) (.seq
  (.reg false [⟨some 66, .mov (.t 5), none⟩, ⟨some 4, .mov (.t 66), none⟩]) .ret))))
theorem hc_impl_reached : Tryz.f67.body.bind (comp Tryz.prog Tryz.f67.ntmps) = some ac_impl_reached := by kernel_rfl
theorem k_impl_reached (p : GProgram) (v : List UInt8) (hpre : progB p = true) : SpecO Tryz.prog 67 [(true, [.sl false [.i .i64 0, .s [], .i .i64 0] (p.Decls.map GDecl.cells), .sl false [.i .i64 0, .s [], .sl false [.s [], .i .i64 0, .s []] [], .sl false [.i .i64 0, .s [], .sl false [.s [], .i .i64 0, .s []] [], .i .i64 0, .s [], .i .i64 0, .s [], .s [], .i .i64 0, .s []] []] (p.Rules.map (GRule.cells false false))]), (false, [.s v])] [] (.one (false, [.sl true [.s []] ((reachL p v).map cStr)])) := by
  refine spec_of2 false false none Tryz.func67 hc_impl_reached (rvs := [.t 4]) (hΓ := mkCtx_ok (deep := false) (l := [(87, [], c_impl_isViewRule), (129, [], c_impl_atomsOf), (66, [], c_conS)]) ⟨c_impl_isViewRule_ok, c_impl_atomsOf_ok, c_conS_ok, trivial⟩) (h := ?_)
  intro hb hE
  simp only [go_sem] at hb
  unfold ac_impl_reached
  have hU := univ_len hpre
  (try refine AX_AW ?_); simp only [go_sem, cut_one]; (repeat' first | apply CJ.mk | intro hc); all_goals try ((repeat' first | apply And.intro | intro hs) <;> (try simp only [go_sem, Bool.and_eq_false_iff] at hs) <;> omega)
  refine aw_loop2 false [(false, 5, 0, 100010), (false, 6, 0, 100012)] [2] [4] [] (fun i : {k : Nat // k + 2 * (univ p - (itF p v k).1.length) + (itF p v k).2.length ≤ 2 * univ p + 1} => [(5, .v false [.ow 100010]), (6, .v false [.ow 100012])]) (fun i => []) (fun i => [(100010, [.s []], ((itF p v i.1).1).map cStr), (100012, [.s []], ((itF p v i.1).2).map cStr)]) (fun i => 2 * univ p + 2 - i.1) (⟨0, by simp [itF]⟩) _ (by simp only [go_sem, cut_one]; try rfl) ?_ ?_
  · simp only [go_sem, cut_one]
    all_goals first | omega | ((repeat' apply And.intro) <;> first | omega | rfl | skip)
  intro S0 hS0 i
  simp only [go_sem, cut_one] at hS0
  obtain ⟨k, hk⟩ := i
  obtain ⟨o, ho⟩ : ∃ o, (itF p v k).1 = o := ⟨_, rfl⟩
  obtain ⟨nx, hx⟩ : ∃ nx, (itF p v k).2 = nx := ⟨_, rfl⟩
  have hst : itF p v (k + 1) = stepF p (o, nx) := by rw [← ho, ← hx]; rfl
  have hI := itF_inv p v k
  have hfin : (itF p v k).2 = [] → (itF p v k).1 = reachL p v := fun h => reach_of (by omega) h
  have hk2 := hk
  rw [ho, hx] at hI hfin hk2
  have hol : o.length ≤ univ p := nodup_len hI.nd hI.un
  (try refine AX_AW ?_); simp only [go_sem, cut_one, hS0, ho, hx]; (repeat' first | apply CJ.mk | intro hc); all_goals try ((repeat' first | apply And.intro | intro hs) <;> (try simp only [go_sem, Bool.and_eq_false_iff] at hs) <;> omega)
  · have hn0 : 0 < nx.length := by omega
    generalize hxx : nx.getD 0 [] = x
    clear hc
    refine aw_loop2 false [(false, 5, 0, 100010), (false, 6, 0, 100012)] [2, 7, 24, 25] [4] [] (fun i : {i : Nat // i ≤ p.Rules.length} => [(5, .v false [.ow 100010]), (6, .v false [.ow 100012]), (26, slV (.i .i64 i.1))]) (fun i => []) (fun i => [(100010, [.s []], (addL o (nextF p x i.1)).map cStr), (100012, [.s []], (nx.drop 1 ++ (addL o (nextF p x i.1)).drop o.length).map cStr)]) (fun i => p.Rules.length - i.1) (⟨0, by simp⟩) _ (by simp only [go_sem, cut_one, hS0, ho, hx]; try rfl) ?_ ?_
    · simp only [go_sem, cut_one, hS0, ho, hx]
      all_goals first | omega | ((repeat' apply And.intro) <;> first | omega | rfl | skip)
    intro S1 hS1 i
    simp only [go_sem, cut_one, hS0, ho, hx] at hS1
    obtain ⟨n, hn⟩ := i
    have hF := nextF_len p x n
    have hA := addL_len o (nextF p x n)
    (try refine AX_AW ?_); simp only [go_sem, cut_one, hS0, ho, hx, hS1]; (repeat' first | apply CJ.mk | intro hc); all_goals try ((repeat' first | apply And.intro | intro hs) <;> (try simp only [go_sem, Bool.and_eq_false_iff] at hs) <;> omega)
    · have hq : leansR p x (p.Rules.getD n default) = false := by
        rw [leansR]
        rcases hc with h | h
        · rw [h]; rfl
        · rw [h, Bool.and_false]
      (refine lpK_n2 (⟨n + 1, by omega⟩) _ (by simp only [go_sem, cut_one, hS0, ho, hx]; try rfl) ?_; simp only [go_sem, cut_one, hS0, ho, hx, hS1]; first | done | ((repeat' apply And.intro) <;> first | omega | (refine w64 ?_ ?_ ?_ <;> omega) | rfl | skip))
      all_goals rw [nextF_no (by omega) hq]
    · exact body_len hpre (by omega)
    · have := atomsOf_len (p.Rules.getD n default); omega
    · have hq : leansR p x (p.Rules.getD n default) = true := by rw [leansR, hc.1.1, hc.1.2, hc.2]; rfl
      have hdl : ((atomsOf (p.Rules.getD n default)).drop 1).length ≤ 8 := by
        have h1 := atomsOf_le (p.Rules.getD n default)
        have h2 := body_len hpre (show n < p.Rules.length by omega)
        rw [List.length_drop]; omega
      clear hc
      refine aw_loop2 false [(false, 5, 0, 100010), (false, 6, 0, 100012)] [2, 7, 24, 25, 26, 43, 44] [4] [5504] (fun i : {j : Nat // j ≤ ((atomsOf (p.Rules.getD n default)).drop 1).length} => [(5, .v false [.ow 100010]), (6, .v false [.ow 100012]), (45, slV (.i .i64 i.1))]) (fun i => []) (fun i => [(100010, [.s []], (addL o (nextF p x n ++ (((atomsOf (p.Rules.getD n default)).drop 1).take i.1).map GAtom.Name)).map cStr), (100012, [.s []], (nx.drop 1 ++ (addL o (nextF p x n ++ (((atomsOf (p.Rules.getD n default)).drop 1).take i.1).map GAtom.Name)).drop o.length).map cStr)]) (fun i => ((atomsOf (p.Rules.getD n default)).drop 1).length - i.1) (⟨0, by simp⟩) _ (by simp only [go_sem, cut_one, hS0, ho, hx, hS1]; try rfl) ?_ ?_
      · simp only [go_sem, cut_one, hS0, ho, hx, hS1]
        all_goals first | omega | ((repeat' apply And.intro) <;> first | omega | rfl | skip)
      intro S2 hS2 i
      simp only [go_sem, cut_one, hS0, ho, hx, hS1] at hS2
      obtain ⟨j, hj⟩ := i
      have hB := addL_len o (nextF p x n ++ (((atomsOf (p.Rules.getD n default)).drop 1).take j).map GAtom.Name)
      rw [List.length_append, List.length_map, List.length_take] at hB
      (try refine AX_AW ?_); simp only [go_sem, cut_one, hS0, ho, hx, hS1, hS2]; (repeat' first | apply CJ.mk | intro hc); all_goals try ((repeat' first | apply And.intro | intro hs) <;> (try simp only [go_sem, Bool.and_eq_false_iff] at hs) <;> omega)
      all_goals first
        | ((try simp only [List.length_append, List.length_drop]); omega)
        | (have hm : ((((atomsOf (p.Rules.getD n default)).drop 1).getD j default).Name) ∈ addL o (nextF p x n ++ (((atomsOf (p.Rules.getD n default)).drop 1).take j).map GAtom.Name) := List.contains_iff_mem.1 hc
           (refine lpK_n2 (⟨j + 1, by omega⟩) _ (by simp only [go_sem, cut_one, hS0, ho, hx, hS1]; try rfl) ?_; simp only [go_sem, cut_one, hS0, ho, hx, hS1, hS2]; first | done | ((repeat' apply And.intro) <;> first | omega | (refine w64 ?_ ?_ ?_ <;> omega) | rfl | skip))
           all_goals rw [bodyD_snoc (by omega), ← List.append_assoc, addL_snoc_in hm]
           done)
        | (have hm : ¬ ((((atomsOf (p.Rules.getD n default)).drop 1).getD j default).Name) ∈ addL o (nextF p x n ++ (((atomsOf (p.Rules.getD n default)).drop 1).take j).map GAtom.Name) := fun h => by rw [List.contains_iff_mem.2 h] at hc; cases hc
           (refine lpK_n2 (⟨j + 1, by omega⟩) _ (by simp only [go_sem, cut_one, hS0, ho, hx, hS1]; try rfl) ?_; simp only [go_sem, cut_one, hS0, ho, hx, hS1, hS2]; first | done | ((repeat' apply And.intro) <;> first | omega | (refine w64 ?_ ?_ ?_ <;> omega) | rfl | skip))
           all_goals rw [bodyD_snoc (by omega), ← List.append_assoc, addL_snoc_out hm]
           all_goals first | done | rw [List.drop_append_of_le_length (by omega), ← List.append_assoc] | trace_state)
        | (have he : nextF p x n ++ (((atomsOf (p.Rules.getD n default)).drop 1).take j).map GAtom.Name = nextF p x (n + 1) := by rw [take_all (by omega), nextF_yes (by omega) hq]; rfl
           rw [he]
           (refine lpK_n2 (⟨n + 1, by omega⟩) _ (by simp only [go_sem, cut_one, hS0, ho, hx, hS1]; try rfl) ?_; simp only [go_sem, cut_one, hS0, ho, hx, hS1, hS2]; first | done | ((repeat' apply And.intro) <;> first | omega | (refine w64 ?_ ?_ ?_ <;> omega) | rfl | skip))
           first | done | trace_state)
        | trace_state
    · have he : nextF p x n = nextL p x := nextF_all (by omega)
      have hms := step_ms hI hk2 hn0
      have h1 : (itF p v (k + 1)).1 = addL o (nextF p x n) := by rw [hst, stepF_ne hn0, hxx, he]
      have h2 : (itF p v (k + 1)).2 = nx.drop 1 ++ (addL o (nextF p x n)).drop o.length := by rw [hst, stepF_ne hn0, hxx, he]
      (refine lpK_n2 (⟨k + 1, by rw [hst]; exact hms⟩) _ (by simp only [go_sem, cut_one, hS0, ho, hx, hS1]; try rfl) ?_; simp only [go_sem, cut_one, hS0, ho, hx, hS1]; first | done | ((repeat' apply And.intro) <;> first | omega | (refine w64 ?_ ?_ ?_ <;> omega) | rfl | skip))
      all_goals first | rw [h1] | rw [h2] | omega
  · rw [hfin (List.length_eq_zero_iff.1 (by omega))]
noncomputable def c_impl_reached : List V → Option (Prop × List (Nat × V) × R) := famP (fun (x : GProgram × (List UInt8)) h => k_impl_reached x.1 x.2 h)
@[go_sem] theorem c_impl_reached_eq (p_Decls : List GDecl) (p_Rules : List GRule) (v : List UInt8) : c_impl_reached [(true, [.sl false [.i .i64 0, .s [], .i .i64 0] (p_Decls.map GDecl.cells), .sl false [.i .i64 0, .s [], .sl false [.s [], .i .i64 0, .s []] [], .sl false [.i .i64 0, .s [], .sl false [.s [], .i .i64 0, .s []] [], .i .i64 0, .s [], .i .i64 0, .s [], .s [], .i .i64 0, .s []] []] (p_Rules.map (GRule.cells false false))]), (false, [.s v])] = some (progB (GProgram.mk p_Decls p_Rules) = true, [], .one (false, [.sl true [.s []] ((reachL (GProgram.mk p_Decls p_Rules) v).map cStr)])) := famP_eq _ (by rintro ⟨⟨_, _⟩, _⟩ ⟨⟨_, _⟩, _⟩ h; simp at h; simp_all) ((GProgram.mk p_Decls p_Rules), v)
theorem c_impl_reached_ok : ∀ vs q o r, c_impl_reached vs = some (q, o, r) → q → SpecO Tryz.prog 67 vs o r := famP_ok _
theorem leans_no {p : GProgram} {a b : List UInt8} (h : ((checkNames p).1 == 0) = false) : leans p a b = false := by rw [leans, h]; rfl
theorem leans_kind {p : GProgram} {a b : List UInt8} (h : (kindOf p a == 3) = false) : leans p a b = false := by
  have : (reachS p a).contains b = false := by
    cases hc : (reachS p a).contains b with
    | false => rfl
    | true =>
      have := rch_kind (mem_reachS.1 (List.contains_iff_mem.1 hc))
      rw [this] at h; cases h
  rw [leans, this, Bool.and_false]
theorem leans_yes {p : GProgram} {a b : List UInt8} (h : ((checkNames p).1 == 0) = true) : leans p a b = (reachL p a).contains b := by
  rw [leans, h, Bool.true_and, contains_mem (mem_reachS.trans mem_reachL.symm)]
theorem leans_spec {p : GProgram} {a b : List UInt8} (h : ((checkNames p).1 == 0) = true) {l : List (List UInt8)} (h1 : ∀ x ∈ l, Rch p a x) (h2 : ∀ x ∈ nextL p a, x ∈ l) (h3 : ∀ x ∈ l, ∀ y ∈ nextL p x, y ∈ l) : leans p a b = l.contains b := by
  rw [leans, h, Bool.true_and, contains_mem (mem_reachS.trans ⟨fun h => h.mem h2 h3, fun h => h1 _ h⟩)]
def ac_impl_Leans : ACode := .seq (.reg false [⟨some 3, .box 2 (.t 0), none⟩, ⟨some 6, .mov (.k (.v false [.c (.b false)])), none⟩]) (.seq (.reg false [⟨some 7, .ld true 2 (.t 3), none⟩,
  ⟨some 8, .call 64 [.t 7], none⟩, ⟨some 9, .mov (.t 8), none⟩, ⟨some 10, .ld true 2 (.t 3), some (9, true)⟩, ⟨some 11, .mov (.t 1), some (9, true)⟩, ⟨some 12,
  .call 65 [.t 10, .t 11], some (9, true)⟩, ⟨some 13, .bin .eql (.t 12) (.k (.v false [.c (.i .i64 3)])), some (9, true)⟩, ⟨some 14, .pick (.t 9) (.t 13) (.k
  (.v false [.c (.b false)])), none⟩, ⟨some 15, .mov (.t 14), none⟩, ⟨some 16, .ld true 2 (.t 3), some (15, true)⟩, ⟨some 17, .mov (.t 1), some (15, true)⟩,
  ⟨some 18, .call 67 [.t 16, .t 17], some (15, true)⟩, ⟨some 19, .mov (.t 2), some (15, true)⟩, ⟨some 20, .call 66 [.t 18, .t 19], some (15, true)⟩, ⟨some 21,
  .pick (.t 15) (.t 20) (.k (.v false [.c (.b false)])), none⟩, ⟨some 6, .mov (.t 21), none⟩]) .ret)
theorem hc_impl_Leans : Tryz.f16.body.bind (comp Tryz.prog Tryz.f16.ntmps) = some ac_impl_Leans := by kernel_rfl
theorem k_impl_Leans (p : GProgram) (a : List UInt8) (b : List UInt8) : SpecO Tryz.prog 16 [(true, [.sl false [.i .i64 0, .s [], .i .i64 0] (p.Decls.map GDecl.cells), .sl false [.i .i64 0, .s [], .sl false [.s [], .i .i64 0, .s []] [], .sl false [.i .i64 0, .s [], .sl false [.s [], .i .i64 0, .s []] [], .i .i64 0, .s [], .i .i64 0, .s [], .s [], .i .i64 0, .s []] []] (p.Rules.map (GRule.cells false false))]), (false, [.s a]), (false, [.s b])] [] (.one (false, [.b (leans p a b)])) := by
  refine spec_of2 false false none Tryz.func16 hc_impl_Leans (rvs := [.t 6]) (hΓ := mkCtx_ok (deep := false) (l := [(64, [], c_impl_namesRight), (65, [], c_impl_kindOf), (67, [], c_impl_reached), (66, [], c_conS)]) ⟨c_impl_namesRight_ok, c_impl_kindOf_ok, c_impl_reached_ok, c_conS_ok, trivial⟩) (h := ?_)
  intro hb hE
  simp only [go_sem] at hb
  unfold ac_impl_Leans
  (try refine AX_AW ?_); simp only [go_sem]; (repeat' first | apply CJ.mk | intro hc); all_goals try ((repeat' first | apply And.intro | intro hs) <;> (try simp only [go_sem, Bool.and_eq_false_iff] at hs) <;> omega)
  · exact names_prog hc.1
  · cases h1 : ((checkNames p).1 == 0) with
    | false => rw [leans_no h1]; rfl
    | true =>
      cases h2 : (kindOf p a == 3) with
      | false => rw [leans_kind h2]; rfl
      | true => rw [leans_yes h1]; rfl
noncomputable def c_impl_Leans : List V → Option (Prop × List (Nat × V) × R) := famQ (fun (x : GProgram × (List UInt8) × (List UInt8)) => k_impl_Leans x.1 x.2.1 x.2.2)
@[go_sem] theorem c_impl_Leans_eq (p_Decls : List GDecl) (p_Rules : List GRule) (a : List UInt8) (b : List UInt8) : c_impl_Leans [(true, [.sl false [.i .i64 0, .s [], .i .i64 0] (p_Decls.map GDecl.cells), .sl false [.i .i64 0, .s [], .sl false [.s [], .i .i64 0, .s []] [], .sl false [.i .i64 0, .s [], .sl false [.s [], .i .i64 0, .s []] [], .i .i64 0, .s [], .i .i64 0, .s [], .s [], .i .i64 0, .s []] []] (p_Rules.map (GRule.cells false false))]), (false, [.s a]), (false, [.s b])] = some (True, [], .one (false, [.b (leans (GProgram.mk p_Decls p_Rules) a b)])) := famQ_eq _ (by rintro ⟨⟨_, _⟩, _, _⟩ ⟨⟨_, _⟩, _, _⟩ h; simp at h; simp_all) ((GProgram.mk p_Decls p_Rules), a, b)
theorem c_impl_Leans_ok : ∀ vs q o r, c_impl_Leans vs = some (q, o, r) → q → SpecO Tryz.prog 16 vs o r := famQ_ok _
theorem next_len {p : GProgram} (h : progB p = true) (a : List UInt8) : (putsS sLt [] (nextL p a)).length ≤ 192 := by
  have h1 := puts_len sLt (nextL p a) []
  have h2 := nextF_len p a p.Rules.length
  rw [nextF_all (by omega)] at h2
  have h3 := univ_len h
  simp only [List.length_nil] at h1
  omega
theorem ss_len2 {p : GProgram} (hB : progB p = true) {a : List UInt8} {l : List (List UInt8)} (hs : SS sLt l) (h : ∀ x ∈ l, Rch p a x) : l.length ≤ 192 :=
  Nat.le_trans (nodup_len (hs.nodup sLess_sto) fun x hx => (h x hx).all) (univ_len hB)
def ac_spec_Leans : ACode := .seq (.reg false [⟨some 3, .box 2 (.t 0), none⟩, ⟨some 6, .mov (.k (.v false [.c (.b false)])), none⟩]) (.seq (.reg false [⟨some 16, .ld true 2 (.t 3), none⟩,
  ⟨some 17, .call 58 [.t 16], none⟩, ⟨some 15, .mov (.t 17), none⟩, ⟨some 18, .ext (.t 15) 0, none⟩, ⟨some 19, .ext (.t 15) 1, none⟩, ⟨some 7, .mov (.t 18),
  none⟩, ⟨some 8, .mov (.t 19), none⟩]) (.seq (.seq (.reg false [⟨some 20, .mov (.t 7), none⟩, ⟨some 21, .bin .neq (.t 20) (.k (.v false [.c (.i .i64 0)])),
  none⟩]) (.cond (.t 21) (.seq (.reg false [⟨some 6, .mov (.k (.v false [.c (.b false)])), none⟩]) .ret) .skip)) (.seq (.reg false [⟨some 22, .ld true 2 (.t 3),
  none⟩, ⟨some 23, .mov (.t 1), none⟩, ⟨some 24, .call 59 [.t 22, .t 23], none⟩, ⟨some 9, .mov (.t 24), none⟩]) (.seq (.seq (.reg false [⟨some 10, .mov (.k (.v
  false [.c (.i .i64 (-1))])), none⟩]) (.block 0 (.loop (.seq (.seq (.reg false [⟨some 25, .mov (.t 10), none⟩, ⟨some 26, .mov (.t 9), none⟩, ⟨some 27, .len (.t
  26), none⟩, ⟨some 28, .bin .lss (.t 25) (.t 27), none⟩]) (.cond (.t 28) .skip (.exit 0))) (.block 1 (.seq (.reg false [⟨some 29, .mov (.t 9), none⟩, ⟨some 30,
  .len (.t 29), none⟩, ⟨some 10, .mov (.t 30), none⟩]) (.seq (.reg false [⟨some 31, .mov (.t 9), none⟩, ⟨some 32, .len (.t 31), none⟩, ⟨some 33, .mov (.k (.v
  false [.c (.i .i64 0)])), none⟩]) (.block 2 (.loop (.seq (.reg false [⟨some 34, .bin .lss (.t 33) (.t 32), none⟩]) (.seq (.cond (.t 34) .skip (.exit 2)) (.seq
  (.block 3 (.seq (.reg false [⟨some 35, .ia 1 (.t 31) (.t 33), none⟩, ⟨some 36, .ld false 1 (.t 35), none⟩, ⟨some 12, .mov (.t 36), none⟩]) (.seq (.reg false
  [⟨some 37, .ld true 2 (.t 3), none⟩, ⟨some 38, .mov (.t 12), none⟩, ⟨some 39, .call 59 [.t 37, .t 38], none⟩, ⟨some 40, .len (.t 39), none⟩, ⟨some 41, .mov
  (.k (.v false [.c (.i .i64 0)])), none⟩]) (.block 4 (.loop (.seq (.reg false [⟨some 42, .bin .lss (.t 41) (.t 40), none⟩]) (.seq (.cond (.t 42) .skip (.exit
  4)) (.seq (.block 5 (.seq (.reg false [⟨some 43, .ia 1 (.t 39) (.t 41), none⟩, ⟨some 44, .ld false 1 (.t 43), none⟩, ⟨some 14, .mov (.t 44), none⟩]) (.reg
  false [⟨some 45, .mov (.t 9), none⟩, ⟨some 46, .mov (.t 14), none⟩, ⟨some 47, .call 60 [.t 45, .t 46], none⟩, ⟨some 9, .mov (.t 47), none⟩]))) (.reg false
  [⟨some 48, .bin .add (.t 41) (.k (.v false [.c (.i .i64 1)])), none⟩, ⟨some 41, .mov (.t 48), none⟩]))))))))) (.reg false [⟨some 49, .bin .add (.t 33) (.k (.v
  false [.c (.i .i64 1)])), none⟩, ⟨some 33, .mov (.t 49), none⟩]))))))))))))) (.seq (.reg false [⟨some 50, .mov (.t 9), none⟩, ⟨some 51, .mov (.t 2), none⟩,
  ⟨some 52, .call 61 [.t 50, .t 51], none⟩, ⟨some 6, .mov (.t 52), none⟩]) .ret)))))
theorem hc_spec_Leans : Tryz.f14.body.bind (comp Tryz.prog Tryz.f14.ntmps) = some ac_spec_Leans := by kernel_rfl
theorem k_spec_Leans (p : GProgram) (a : List UInt8) (b : List UInt8) : SpecO Tryz.prog 14 [(true, [.sl false [.i .i64 0, .s [], .i .i64 0] (p.Decls.map GDecl.cells), .sl false [.i .i64 0, .s [], .sl false [.s [], .i .i64 0, .s []] [], .sl false [.i .i64 0, .s [], .sl false [.s [], .i .i64 0, .s []] [], .i .i64 0, .s [], .i .i64 0, .s [], .s [], .i .i64 0, .s []] []] (p.Rules.map (GRule.cells false false))]), (false, [.s a]), (false, [.s b])] [] (.one (false, [.b (leans p a b)])) := by
  refine spec_of2 false false none Tryz.func14 hc_spec_Leans (rvs := [.t 6]) (hΓ := mkCtx_ok (deep := false) (l := [(58, [], c_spec_CheckNames), (59, [], c_spec_l19Next), (60, [], c_spec_l16Put), (61, [], c_spec_l16Has)]) ⟨c_spec_CheckNames_ok, c_spec_l19Next_ok, c_spec_l16Put_ok, c_spec_l16Has_ok, trivial⟩) (h := ?_)
  intro hb hE
  simp only [go_sem] at hb
  unfold ac_spec_Leans
  (try refine AX_AW ?_); simp only [go_sem]; (repeat' first | apply CJ.mk | intro hc); all_goals try ((repeat' first | apply And.intro | intro hs) <;> (try simp only [go_sem, Bool.and_eq_false_iff] at hs) <;> omega)
  · rw [leans_no (by simpa [bne] using hc)]
  · exact names_prog (by simpa [bne] using hc)
  have hN : ((checkNames p).1 == 0) = true := by simpa [bne] using hc
  have hB := names_prog hN
  clear hc
  refine aw_loop2 false [] [2, 3] [6] [] (fun i : {q : Int × List (List UInt8) // -1 ≤ q.1 ∧ q.1 ≤ q.2.length ∧ SS sLt q.2 ∧ (∀ x ∈ q.2, Rch p a x) ∧ (∀ x ∈ nextL p a, x ∈ q.2) ∧ (q.1 = q.2.length → ∀ x ∈ q.2, ∀ y ∈ nextL p x, y ∈ q.2)} => [(9, .v false [.c (.sl false [.s []] (i.1.2.map cStr))]), (10, slV (.i .i64 i.1.1))]) (fun i => []) (fun i => []) (fun i => (200 - i.1.1).toNat) (⟨(-1, putsS sLt [] (nextL p a)), by simp, by simp only; omega, SS.puts sLess_sto SS.nil, fun x hx => .one (by simpa [mem_putsS] using hx), fun x hx => mem_putsS.2 (.inr hx), by intro h; simp only at h; omega⟩) _ rfl ?_ ?_
  · simp only [go_sem]
    all_goals first | omega | ((repeat' apply And.intro) <;> first | omega | rfl | skip)
  intro S0 hS0 i
  simp only [go_sem] at hS0
  obtain ⟨⟨m, l⟩, hm1, hm2, hs, hR, hI, hC⟩ := i
  simp only at hm1 hm2 hs hR hI hC
  have hl := ss_len2 hB hs hR
  (try refine AX_AW ?_); simp only [go_sem, hS0]; (repeat' first | apply CJ.mk | intro hc); all_goals try ((repeat' first | apply And.intro | intro hs) <;> (try simp only [go_sem, Bool.and_eq_false_iff] at hs) <;> omega)
  · have hml := hc
    clear hc
    refine aw_loop2 false [] [2, 3, 10, 31, 32] [6] [] (fun i : {q : Nat × List (List UInt8) // q.1 ≤ l.length ∧ SS sLt q.2 ∧ (∀ x ∈ q.2, Rch p a x) ∧ (∀ x ∈ l, x ∈ q.2) ∧ l.length ≤ q.2.length ∧ (q.2.length = l.length → q.2 = l ∧ ∀ x ∈ l.take q.1, ∀ y ∈ nextL p x, y ∈ l)} => [(9, .v false [.c (.sl false [.s []] (i.1.2.map cStr))]), (33, slV (.i .i64 i.1.1))]) (fun i => []) (fun i => []) (fun i => l.length - i.1.1) (⟨(0, l), by simp, hs, hR, fun x hx => hx, Nat.le_refl _, fun _ => ⟨rfl, by simp⟩⟩) _ rfl ?_ ?_
    · simp only [go_sem, hS0]
      all_goals first | omega | ((repeat' apply And.intro) <;> first | omega | rfl | skip)
    intro S1 hS1 i
    simp only [go_sem, hS0] at hS1
    obtain ⟨⟨n, l1⟩, hn, hs1, hR1, hI1, hl1, hC1⟩ := i
    simp only at hn hs1 hR1 hI1 hl1 hC1
    have hll1 := ss_len2 hB hs1 hR1
    have hyl := next_len hB (l.getD n [])
    (try refine AX_AW ?_); simp only [go_sem, hS0, hS1]; (repeat' first | apply CJ.mk | intro hc); all_goals try ((repeat' first | apply And.intro | intro hs) <;> (try simp only [go_sem, Bool.and_eq_false_iff] at hs) <;> omega)
    · have hnl := hc
      clear hc
      generalize hys : putsS sLt [] (nextL p (l.getD n [])) = ys at hyl ⊢
      refine aw_loop2 false [] [2, 3, 10, 31, 32, 33, 39, 40] [6] [] (fun i : {j : Nat // j ≤ ys.length} => [(9, .v false [.c (.sl false [.s []] ((putsS sLt l1 (ys.take i.1)).map cStr))]), (41, slV (.i .i64 i.1))]) (fun i => []) (fun i => []) (fun i => ys.length - i.1) (⟨0, by simp⟩) _ rfl ?_ ?_
      · simp only [go_sem, hS0, hS1]
        all_goals first | omega | ((repeat' apply And.intro) <;> first | omega | rfl | skip)
      intro S2 hS2 i
      simp only [go_sem, hS0, hS1] at hS2
      obtain ⟨j, hj⟩ := i
      have h2 := puts_len sLt (ys.take j) l1
      rw [List.length_take] at h2
      (try refine AX_AW ?_); simp only [go_sem, hS0, hS1, hS2]; (repeat' first | apply CJ.mk | intro hc); all_goals try ((repeat' first | apply And.intro | intro hs) <;> (try simp only [go_sem, Bool.and_eq_false_iff] at hs) <;> omega)
      all_goals first
        | omega
        | ((refine lpK_n2 (⟨j + 1, by omega⟩) _ rfl ?_; simp only [go_sem, hS0, hS1, hS2]; first | done | ((repeat' apply And.intro) <;> first | omega | (refine w64 ?_ ?_ ?_ <;> omega) | rfl | skip)); rw [take_snoc' [] (by omega), puts_snoc]; done)
        | (have he : ys.take j = ys := take_all (by omega)
           have hmy : ∀ y, y ∈ ys ↔ y ∈ nextL p (l.getD n []) := fun y => by rw [← hys, mem_putsS]; simp
           have hx : Rch p a (l.getD n []) := hR _ (getD_mem (by omega))
           have g1 : ∀ y ∈ putsS sLt l1 ys, Rch p a y := fun y hy => (mem_putsS.1 hy).elim (hR1 y) fun hy => .step hx ((hmy y).1 hy)
           have g2 := puts_ge sLt ys l1
           have g3 : (putsS sLt l1 ys).length = l.length → putsS sLt l1 ys = l ∧ ∀ x ∈ l.take (n + 1), ∀ y ∈ nextL p x, y ∈ l := fun e => by
             have e1 := puts_same (lt := sLt) (r := ys) (l := l1) (by omega)
             have e2 := hC1 (by omega)
             refine ⟨e1.1.trans e2.1, fun x hx y hy => ?_⟩
             rw [take_snoc' [] (by omega), List.mem_append, List.mem_singleton] at hx
             rcases hx with hx | rfl
             · exact e2.2 x hx y hy
             · rw [← e2.1]; exact e1.2 y ((hmy y).2 hy)
           rw [he]
           (refine lpK_n2 (⟨(n + 1, putsS sLt l1 ys), by simp only; omega, SS.puts sLess_sto hs1, g1, fun x hx => mem_putsS.2 (.inl (hI1 x hx)), by simp only; omega, g3⟩) _ rfl ?_; simp only [go_sem, hS0, hS1, hS2]; first | done | ((repeat' apply And.intro) <;> first | omega | (refine w64 ?_ ?_ ?_ <;> omega) | rfl | skip))
           first | done | trace_state)
        | trace_state
    · have g : (l.length : Int) = l1.length → ∀ x ∈ l1, ∀ y ∈ nextL p x, y ∈ l1 := fun e => by
        have e2 := hC1 (by omega)
        have e3 := e2.2
        rw [take_all (by omega)] at e3
        rw [e2.1]; exact e3
      (refine lpK_n2 (⟨((l.length : Int), l1), by simp only; omega, by simp only; omega, hs1, hR1, fun x hx => hI1 x (hI x hx), g⟩) _ rfl ?_; simp only [go_sem, hS0, hS1]; first | done | ((repeat' apply And.intro) <;> first | omega | (refine w64 ?_ ?_ ?_ <;> omega) | rfl | skip))
      all_goals first | omega | done | trace_state
  · rw [leans_spec hN hR hI (hC (by omega))]
noncomputable def c_spec_Leans : List V → Option (Prop × List (Nat × V) × R) := famQ (fun (x : GProgram × (List UInt8) × (List UInt8)) => k_spec_Leans x.1 x.2.1 x.2.2)
@[go_sem] theorem c_spec_Leans_eq (p_Decls : List GDecl) (p_Rules : List GRule) (a : List UInt8) (b : List UInt8) : c_spec_Leans [(true, [.sl false [.i .i64 0, .s [], .i .i64 0] (p_Decls.map GDecl.cells), .sl false [.i .i64 0, .s [], .sl false [.s [], .i .i64 0, .s []] [], .sl false [.i .i64 0, .s [], .sl false [.s [], .i .i64 0, .s []] [], .i .i64 0, .s [], .i .i64 0, .s [], .s [], .i .i64 0, .s []] []] (p_Rules.map (GRule.cells false false))]), (false, [.s a]), (false, [.s b])] = some (True, [], .one (false, [.b (leans (GProgram.mk p_Decls p_Rules) a b)])) := famQ_eq _ (by rintro ⟨⟨_, _⟩, _, _⟩ ⟨⟨_, _⟩, _, _⟩ h; simp at h; simp_all) ((GProgram.mk p_Decls p_Rules), a, b)
theorem c_spec_Leans_ok : ∀ vs q o r, c_spec_Leans vs = some (q, o, r) → q → SpecO Tryz.prog 14 vs o r := famQ_ok _
end Go.Aw
