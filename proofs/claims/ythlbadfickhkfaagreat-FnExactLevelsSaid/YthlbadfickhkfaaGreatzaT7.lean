/- Bound variables. No condition. -/
import Derived.Test.YthlbadfickhkfaaGreatzaT3
namespace Go.Aw
open Go.Proofs
attribute [local irreducible] aft blk lpK retK AW SpecO
set_option linter.unusedVariables false
set_option linter.unusedSimpArgs false
set_option maxRecDepth 100000
def eqLit (l : GLit) : Bool := l.Kind == 3 && l.Op == 1
inductive Bd (r : GRule) : List UInt8 → Prop
  | base {l : GLit} {t : GTerm} : l ∈ r.Body → (l.Kind == 1) = true → t ∈ l.Atom.Args → hasV t = true → Bd r t.Var
  | leftV {l : GLit} : l ∈ r.Body → eqLit l = true → hasV l.A = true → hasV l.B = false → Bd r l.A.Var
  | leftB {l : GLit} : l ∈ r.Body → eqLit l = true → hasV l.A = true → Bd r l.B.Var → Bd r l.A.Var
  | rightV {l : GLit} : l ∈ r.Body → eqLit l = true → hasV l.B = true → hasV l.A = false → Bd r l.B.Var
  | rightB {l : GLit} : l ∈ r.Body → eqLit l = true → hasV l.B = true → Bd r l.A.Var → Bd r l.B.Var
def knownT (out : List (List UInt8)) (t : GTerm) : Bool := t.Var == [] || out.contains t.Var
def closedAt (out : List (List UInt8)) (l : GLit) : Prop := eqLit l = true → (knownT out l.A || knownT out l.B) = true → ∀ x ∈ varL [l.A, l.B], x ∈ out
def baseIn (r : GRule) (out : List (List UInt8)) : Prop := ∀ l ∈ r.Body, (l.Kind == 1) = true → ∀ x ∈ varL l.Atom.Args, x ∈ out
theorem mem_varL {l : List GTerm} {x : List UInt8} : x ∈ varL l ↔ ∃ t ∈ l, hasV t = true ∧ t.Var = x := by
  simp only [varL, List.mem_map, List.mem_filter, and_assoc]
theorem Bd.mem {r : GRule} {out : List (List UInt8)} (hb : baseIn r out) (hc : ∀ l ∈ r.Body, closedAt out l) {v : List UInt8} (h : Bd r v) : v ∈ out := by
  induction h with
  | base hl hk ht hv => exact hb _ hl hk _ (mem_varL.2 ⟨_, ht, hv, rfl⟩)
  | leftV hl he hv hn =>
    refine hc _ hl he ?_ _ (mem_varL.2 ⟨_, by simp, hv, rfl⟩)
    simp only [hasV, Bool.not_eq_false'] at hn
    simp [knownT, hn]
  | leftB hl he hv _ ih =>
    refine hc _ hl he ?_ _ (mem_varL.2 ⟨_, by simp, hv, rfl⟩)
    simp [knownT, ih]
  | rightV hl he hv hn =>
    refine hc _ hl he ?_ _ (mem_varL.2 ⟨_, List.mem_cons_of_mem _ (List.mem_singleton.2 rfl), hv, rfl⟩)
    simp only [hasV, Bool.not_eq_false'] at hn
    simp [knownT, hn]
  | rightB hl he hv _ ih =>
    refine hc _ hl he ?_ _ (mem_varL.2 ⟨_, List.mem_cons_of_mem _ (List.mem_singleton.2 rfl), hv, rfl⟩)
    simp [knownT, ih]
def allV (r : GRule) : List (List UInt8) := r.Body.flatMap fun l => varL l.Atom.Args ++ varL [l.A, l.B]
theorem Bd.all {r : GRule} {v : List UInt8} (h : Bd r v) : v ∈ allV r := by
  have hm : ∀ {l : GLit} {x : List UInt8}, l ∈ r.Body → (x ∈ varL l.Atom.Args ∨ x ∈ varL [l.A, l.B]) → x ∈ allV r := fun hl hx => List.mem_flatMap.2 ⟨_, hl, List.mem_append.2 hx⟩
  cases h with
  | base hl hk ht hv => exact hm hl (.inl (mem_varL.2 ⟨_, ht, hv, rfl⟩))
  | leftV hl he hv hn => exact hm hl (.inr (mem_varL.2 ⟨_, by simp, hv, rfl⟩))
  | leftB hl he hv hn => exact hm hl (.inr (mem_varL.2 ⟨_, by simp, hv, rfl⟩))
  | rightV hl he hv hn => exact hm hl (.inr (mem_varL.2 ⟨_, List.mem_cons_of_mem _ (List.mem_singleton.2 rfl), hv, rfl⟩))
  | rightB hl he hv hn => exact hm hl (.inr (mem_varL.2 ⟨_, List.mem_cons_of_mem _ (List.mem_singleton.2 rfl), hv, rfl⟩))
open Classical in
noncomputable def boundL (r : GRule) : List (List UInt8) := (putsS sLt [] (allV r)).filter fun v => decide (Bd r v)
theorem boundL_SS (r : GRule) : SS sLt (boundL r) := SS.filter (SS.puts sLess_sto SS.nil) _
open Classical in
theorem mem_boundL {r : GRule} {v : List UInt8} : v ∈ boundL r ↔ Bd r v := by
  rw [boundL, List.mem_filter, mem_putsS, decide_eq_true_eq]
  exact ⟨fun h => h.2, fun h => ⟨.inr h.all, h⟩⟩
theorem bound_uniq {r : GRule} {out : List (List UInt8)} (hs : SS sLt out) (hB : ∀ v ∈ out, Bd r v) (hb : baseIn r out) (hc : ∀ l ∈ r.Body, closedAt out l) : out = boundL r :=
  SS.uniq sLess_sto hs (boundL_SS r) fun x => ⟨fun h => mem_boundL.2 (hB x h), fun h => (mem_boundL.1 h).mem hb hc⟩
theorem bound_sort {r : GRule} {out : List (List UInt8)} (hB : ∀ v ∈ out, Bd r v) (hb : baseIn r out) (hc : ∀ l ∈ r.Body, closedAt out l) : Lib.compact (sortL sLt out) = boundL r :=
  compact_sort sLess_sto (boundL_SS r) fun x => ⟨fun h => (mem_boundL.1 h).mem hb hc, fun h => mem_boundL.2 (hB x h)⟩
theorem put_same {α : Type} [DecidableEq α] {lt : α → α → Bool} {l : List α} {s : α} (h : (putS lt l s).length = l.length) : s ∈ l := by
  unfold putS at h
  split at h
  · assumption
  · have e := congrArg List.length (List.takeWhile_append_dropWhile (p := fun x => !lt s x) (l := l))
    simp only [List.length_append, List.length_cons] at e h
    omega
theorem put_ge {α : Type} [DecidableEq α] (lt : α → α → Bool) (l : List α) (s : α) : l.length ≤ (putS lt l s).length := by
  unfold putS
  split
  · omega
  · have e := congrArg List.length (List.takeWhile_append_dropWhile (p := fun x => !lt s x) (l := l))
    simp only [List.length_append, List.length_cons] at e ⊢
    omega
theorem puts_ge {α : Type} [DecidableEq α] (lt : α → α → Bool) : ∀ (r l : List α), l.length ≤ (putsS lt l r).length := by
  intro r
  induction r with
  | nil => intro l; exact Nat.le_refl _
  | cons a r ih =>
    intro l
    have := ih (putS lt l a)
    have := put_ge lt l a
    simp only [putsS, List.foldl_cons] at *
    omega
theorem puts_same {α : Type} [DecidableEq α] {lt : α → α → Bool} : ∀ {r l : List α}, (putsS lt l r).length = l.length → putsS lt l r = l ∧ ∀ x ∈ r, x ∈ l := by
  intro r
  induction r with
  | nil => intro l _; exact ⟨rfl, by simp⟩
  | cons a r ih =>
    intro l h
    have h1 := puts_ge lt r (putS lt l a)
    have h2 := put_ge lt l a
    simp only [putsS, List.foldl_cons] at h h1
    have ha : a ∈ l := put_same (lt := lt) (by omega)
    have e : putS lt l a = l := by rw [putS, if_pos ha]
    rw [e] at h
    have h3 := ih (l := l) h
    simp only [putsS, List.foldl_cons, e]
    refine ⟨h3.1, fun x hx => ?_⟩
    rcases List.mem_cons.1 hx with rfl | hx
    · exact ha
    · exact h3.2 x hx
theorem allV_len {r : GRule} (h : ruleB r = true) : (allV r).length ≤ 64 := by
  have h8 : r.Body.length ≤ 8 := by
    simp only [ruleB, Bool.and_eq_true, decide_eq_true_eq] at h; omega
  have ha : ∀ l ∈ r.Body, (varL l.Atom.Args ++ varL [l.A, l.B]).length ≤ 8 := by
    intro l hl
    simp only [ruleB, Bool.and_eq_true, List.all_eq_true] at h
    have hb := h.2 l hl
    have h1 := varL_len l.Atom.Args
    have h2 := varL_len [l.A, l.B]
    have h6 : l.Atom.Args.length ≤ 6 := by
      rw [litB] at hb
      cases hk : (l.Kind == 3) <;> rw [hk] at hb <;> simp only [cond_true, cond_false, Bool.and_eq_true, decide_eq_true_eq, beq_iff_eq, atomB] at hb <;> omega
    simp only [List.length_append, List.length_cons, List.length_nil] at *
    omega
  unfold allV
  revert ha h8
  generalize r.Body = b
  intro h8 ha
  have : ∀ b : List GLit, (∀ l ∈ b, (varL l.Atom.Args ++ varL [l.A, l.B]).length ≤ 8) → (b.flatMap fun l => varL l.Atom.Args ++ varL [l.A, l.B]).length ≤ 8 * b.length := by
    intro b
    induction b with
    | nil => intro _; simp
    | cons x b ih =>
      intro hb
      have h1 := hb x (by simp)
      have h2 := ih fun l hl => hb l (by simp [hl])
      simp only [List.flatMap_cons, List.length_append, List.length_cons] at *
      omega
  have := this b ha
  omega
theorem ss_len {out l : List (List UInt8)} (hs : SS sLt out) (h : ∀ v ∈ out, v ∈ l) : out.length ≤ l.length := by
  have e : out = (putsS sLt [] l).filter (fun v => out.contains v) := SS.uniq sLess_sto hs (SS.filter (SS.puts sLess_sto SS.nil) _) fun x => ⟨fun hx => List.mem_filter.2 ⟨mem_putsS.2 (.inr (h x hx)), by simpa using hx⟩, fun hx => by simpa using (List.mem_filter.1 hx).2⟩
  have e1 := congrArg List.length e
  have e2 := List.length_filter_le (fun v => out.contains v) (putsS sLt [] l)
  have e3 := puts_len sLt l []
  simp only [List.length_nil] at e3
  omega
theorem bd_len {r : GRule} (h : ruleB r = true) {out : List (List UInt8)} (hs : SS sLt out) (hB : ∀ v ∈ out, Bd r v) : out.length ≤ 64 :=
  Nat.le_trans (ss_len hs fun v hv => (hB v hv).all) (allV_len h)
theorem rule_args {r : GRule} (h : ruleB r = true) {l : GLit} (hl : l ∈ r.Body) : l.Atom.Args.length ≤ 6 := by
  simp only [ruleB, Bool.and_eq_true, List.all_eq_true] at h
  have hb := h.2 l hl
  rw [litB] at hb
  cases hk : (l.Kind == 3) <;> rw [hk] at hb <;> simp only [cond_true, cond_false, Bool.and_eq_true, decide_eq_true_eq, beq_iff_eq, atomB] at hb <;> omega
theorem bd_base {r : GRule} {l : GLit} (hl : l ∈ r.Body) (hk : (l.Kind == 1) = true) {x : List UInt8} (hx : x ∈ varL l.Atom.Args) : Bd r x := by
  obtain ⟨t, ht, hv, rfl⟩ := mem_varL.1 hx
  exact Bd.base hl hk ht hv
theorem bd_step {r : GRule} {l : GLit} (hl : l ∈ r.Body) (he : eqLit l = true) {out : List (List UInt8)} (hB : ∀ v ∈ out, Bd r v) (hk : (knownT out l.A || knownT out l.B) = true) {x : List UInt8} (hx : x ∈ varL [l.A, l.B]) : Bd r x := by
  obtain ⟨t, ht, hv, rfl⟩ := mem_varL.1 hx
  have hA : knownT out l.A = true → hasV l.A = false ∨ Bd r l.A.Var := by
    intro h
    simp only [knownT, Bool.or_eq_true, List.contains_iff_mem] at h
    rcases h with h | h
    · exact .inl (by simp [hasV, h])
    · exact .inr (hB _ h)
  have hBB : knownT out l.B = true → hasV l.B = false ∨ Bd r l.B.Var := by
    intro h
    simp only [knownT, Bool.or_eq_true, List.contains_iff_mem] at h
    rcases h with h | h
    · exact .inl (by simp [hasV, h])
    · exact .inr (hB _ h)
  simp only [Bool.or_eq_true] at hk
  simp only [List.mem_cons, List.not_mem_nil, or_false] at ht
  rcases ht with rfl | rfl
  · rcases hk with h | h
    · rcases hA h with h | h
      · rw [h] at hv; cases hv
      · exact h
    · rcases hBB h with h | h
      · exact Bd.leftV hl he hv h
      · exact Bd.leftB hl he hv h
  · rcases hk with h | h
    · rcases hA h with h | h
      · exact Bd.rightV hl he hv h
      · exact Bd.rightB hl he hv h
    · rcases hBB h with h | h
      · rw [h] at hv; cases hv
      · exact h
/-- how many of the variables are not in a list yet -/
def miss (r : GRule) (out : List (List UInt8)) : Nat := ((allV r).filter fun v => !out.contains v).length
theorem miss_le (r : GRule) (out : List (List UInt8)) : miss r out ≤ (allV r).length := List.length_filter_le _ _
theorem filter_lt {α : Type} {p q : α → Bool} : ∀ {l : List α}, (∀ x, q x = true → p x = true) → (∃ x ∈ l, p x = true ∧ q x = false) → (l.filter q).length < (l.filter p).length
  | [], _, h => by obtain ⟨x, hx, _⟩ := h; simp at hx
  | a :: l, hpq, h => by
    have hle : (l.filter q).length ≤ (l.filter p).length := by
      clear h
      induction l with
      | nil => simp
      | cons b l ih =>
        have := hpq b
        cases hq : q b <;> cases hp : p b <;> simp_all <;> omega
    obtain ⟨x, hx, h1, h2⟩ := h
    rcases List.mem_cons.1 hx with rfl | hx
    · simp only [List.filter_cons, h1, h2, if_true, Bool.false_eq_true, if_false, List.length_cons]; omega
    · have ih := filter_lt (l := l) hpq ⟨x, hx, h1, h2⟩
      have := hpq a
      cases hq : q a <;> cases hp : p a <;> simp_all <;> omega
theorem miss_lt {r : GRule} {out : List (List UInt8)} {v : List UInt8} (hv : v ∈ allV r) (hn : out.contains v = false) : miss r (out ++ [v]) < miss r out := by
  refine filter_lt (fun x hx => ?_) ⟨v, hv, by rw [hn]; rfl, by simp⟩
  simp only [Bool.not_eq_true', List.contains_eq_mem, List.mem_append, decide_eq_false_iff_not, not_or] at hx ⊢
  exact hx.1
theorem varsB_len (l : List GTerm) : (varsB l).length ≤ l.length := by
  have h1 := puts_len sLt (varL l) []
  have h2 := varL_len l
  simp only [List.length_nil] at h1
  unfold varsB
  omega
theorem mem_varsB {l : List GTerm} {x : List UInt8} : x ∈ varsB l ↔ x ∈ varL l := by
  rw [varsB, mem_putsS]; simp
theorem closed_of {o : List (List UInt8)} {l : GLit} (h0 : knownT o l.B = true → hasV l.A = true → l.A.Var ∈ o) (h1 : knownT o l.A = true → hasV l.B = true → l.B.Var ∈ o) : closedAt o l := by
  intro _ hk x hx
  obtain ⟨t, ht, hv, rfl⟩ := mem_varL.1 hx
  have hs : ∀ t : GTerm, hasV t = true → knownT o t = true → t.Var ∈ o := by
    intro t hv h
    simp only [knownT, Bool.or_eq_true, List.contains_iff_mem] at h
    rcases h with h | h
    · simp [hasV, h] at hv
    · exact h
  simp only [List.mem_cons, List.not_mem_nil, or_false] at ht
  rw [Bool.or_eq_true] at hk
  rcases ht with rfl | rfl
  · rcases hk with h | h
    · exact hs _ hv h
    · exact h0 h hv
  · rcases hk with h | h
    · exact h1 h hv
    · exact hs _ hv h
theorem add_step {r : GRule} (hV : (allV r).length ≤ 64) {o1 o3 : List (List UInt8)} {g3 : Bool} {v : List UInt8} (hl : o3.length + miss r o3 ≤ 112) (hB : ∀ v ∈ o3, Bd r v) (hI : baseIn r o3) (hC : g3 = false → o3 = o1) (hM : g3 = true → miss r o3 < miss r o1) (hv : Bd r v) (hn : o3.contains v = false) : (o3 ++ [v]).length + miss r (o3 ++ [v]) ≤ 112 ∧ (∀ x ∈ o3 ++ [v], Bd r x) ∧ baseIn r (o3 ++ [v]) ∧ miss r (o3 ++ [v]) < miss r o1 := by
  have h1 := miss_lt hv.all hn
  refine ⟨by simp only [List.length_append, List.length_cons, List.length_nil]; omega, fun x hx => ?_, fun l hl hk x hx => List.mem_append.2 (.inl (hI l hl hk x hx)), ?_⟩
  · rcases List.mem_append.1 hx with h | h
    · exact hB x h
    · rw [List.mem_singleton.1 h]; exact hv
  · cases g3 with
    | false => rw [hC rfl] at h1 ⊢; exact h1
    | true => have := hM rfl; omega
theorem bound_len (r : GRule) : (bif ruleB r then boundL r else []).length ≤ 64 := by
  cases h : ruleB r with
  | true => exact bd_len h (boundL_SS r) fun v hv => mem_boundL.1 hv
  | false => exact Nat.zero_le _
end Go.Aw
