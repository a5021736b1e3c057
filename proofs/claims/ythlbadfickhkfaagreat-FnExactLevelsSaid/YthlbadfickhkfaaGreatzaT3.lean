/- Variables of terms, texts in order. No condition. -/
import Derived.Test.YthlbadfickhkfaaGreatzaG8
import Derived.Test.YthlbadfickhkfaaGreatzaS1
import Derived.Test.YthlbadfickhkfaaGreatgBwtza
namespace Go.Aw
open Go.Proofs
attribute [local irreducible] aft blk lpK retK AW SpecO
set_option linter.unusedVariables false
set_option linter.unusedSimpArgs false
set_option maxRecDepth 100000
abbrev sLt : List UInt8 → List UInt8 → Bool := Op.bytesLess
def insS {α : Type} (lt : α → α → Bool) (s : α) (t : List α) : List α := bif t.any (lt s) then t.takeWhile (fun x => !lt s x) ++ s :: t.dropWhile (fun x => !lt s x) else t
theorem tw_all {α : Type} {q : α → Bool} {t : List α} (h : ∀ x ∈ t, q x = true) : t.takeWhile q = t ∧ t.dropWhile q = [] := by
  induction t with
  | nil => exact ⟨rfl, rfl⟩
  | cons a t ih =>
    have ha := h a (by simp)
    have := ih fun x hx => h x (by simp [hx])
    simp [List.takeWhile_cons, List.dropWhile_cons, ha, this.1, this.2]
theorem tw_app {α : Type} {q : α → Bool} {t u : List α} (h : ∃ x ∈ t, q x = false) : (t ++ u).takeWhile q = t.takeWhile q ∧ (t ++ u).dropWhile q = t.dropWhile q ++ u := by
  induction t with
  | nil => obtain ⟨x, hx, _⟩ := h; simp at hx
  | cons a t ih =>
    cases ha : q a with
    | false => simp [List.takeWhile_cons, List.dropWhile_cons, ha]
    | true =>
      obtain ⟨x, hx, hq⟩ := h
      have := ih ⟨x, by
        rcases List.mem_cons.1 hx with rfl | hx
        · rw [ha] at hq; simp at hq
        · exact hx, hq⟩
      simp [List.takeWhile_cons, List.dropWhile_cons, ha, this.1, this.2]
theorem any_lt_false {α : Type} {lt : α → α → Bool} {s : α} {t : List α} (h : t.any (lt s) = false) : ∀ x ∈ t, (fun x => !lt s x) x = true := by
  intro x hx
  rw [List.any_eq_false] at h
  have := h x hx
  simpa using this
theorem any_lt_true {α : Type} {lt : α → α → Bool} {s : α} {t : List α} (h : t.any (lt s) = true) : ∃ x ∈ t, (fun x => !lt s x) x = false := by
  rw [List.any_eq_true] at h
  obtain ⟨x, hx, hp⟩ := h
  exact ⟨x, hx, by simp [hp]⟩
theorem ins_done {α : Type} {lt : α → α → Bool} {s x : α} {t : List α} (h : t.any (lt s) = true) : insS lt s (t ++ [x]) = insS lt s t ++ [x] := by
  have e := tw_app (u := [x]) (any_lt_true h)
  have h2 : (t ++ [x]).any (lt s) = true := by rw [List.any_append, h]; rfl
  unfold insS
  rw [h, h2, e.1, e.2, cond_true, cond_true, List.append_assoc]; rfl
theorem ins_hit {α : Type} {lt : α → α → Bool} {s x : α} {t : List α} (h : t.any (lt s) = false) (hx : lt s x = true) : insS lt s (t ++ [x]) = insS lt s t ++ [s] ++ [x] := by
  have e := tw_all (any_lt_false h)
  have h2 : (t ++ [x]).any (lt s) = true := by rw [List.any_append, h]; simp [hx]
  unfold insS
  rw [h, h2, cond_true, cond_false]
  rw [List.takeWhile_append_of_pos (any_lt_false h), List.dropWhile_append_of_pos (any_lt_false h)]
  simp [List.takeWhile_cons, List.dropWhile_cons, hx]
theorem ins_no {α : Type} {lt : α → α → Bool} {s x : α} {t : List α} (h : t.any (lt s) = false) (hx : lt s x = false) : insS lt s (t ++ [x]) = insS lt s t ++ [x] := by
  have h2 : (t ++ [x]).any (lt s) = false := by rw [List.any_append, h]; simp [hx]
  unfold insS
  rw [h, h2]; rfl
theorem ins_end1 {α : Type} [DecidableEq α] {lt : α → α → Bool} {s : α} {l : List α} (hm : ¬ s ∈ l) (h : l.any (lt s) = true) : putS lt l s = insS lt s l := by
  rw [putS, if_neg hm, insS, h]; rfl
theorem ins_end2 {α : Type} [DecidableEq α] {lt : α → α → Bool} {s : α} {l : List α} (hm : ¬ s ∈ l) (h : l.any (lt s) = false) : putS lt l s = insS lt s l ++ [s] := by
  have e := tw_all (any_lt_false h)
  rw [putS, if_neg hm, insS, h, e.1, e.2]; rfl
theorem ins_len {α : Type} (lt : α → α → Bool) (s : α) (t : List α) : (insS lt s t).length ≤ t.length + 1 := by
  unfold insS
  cases t.any (lt s) with
  | false => simp
  | true =>
    have e := congrArg List.length (List.takeWhile_append_dropWhile (p := fun x => !lt s x) (l := t))
    simp only [List.length_append] at e
    simp only [cond_true, List.length_append, List.length_cons]
    omega
theorem put_len {α : Type} [DecidableEq α] (lt : α → α → Bool) (l : List α) (s : α) : (putS lt l s).length ≤ l.length + 1 := by
  unfold putS
  split
  · omega
  · have e := congrArg List.length (List.takeWhile_append_dropWhile (p := fun x => !lt s x) (l := l))
    simp only [List.length_append] at e
    simp only [List.length_append, List.length_cons]
    omega
theorem puts_len {α : Type} [DecidableEq α] (lt : α → α → Bool) : ∀ (r l : List α), (putsS lt l r).length ≤ l.length + r.length := by
  intro r
  induction r with
  | nil => intro l; exact Nat.le_refl _
  | cons a r ih =>
    intro l
    have := ih (putS lt l a)
    have := put_len lt l a
    simp only [putsS, List.foldl_cons, List.length_cons] at *
    omega
theorem puts_snoc {α : Type} [DecidableEq α] (lt : α → α → Bool) (l r : List α) (x : α) : putsS lt l (r ++ [x]) = putS lt (putsS lt l r) x := by
  simp [putsS, List.foldl_append]
def hasV (t : GTerm) : Bool := !(t.Var == [])
def varL (l : List GTerm) : List (List UInt8) := (l.filter hasV).map GTerm.Var
def varsB (l : List GTerm) : List (List UInt8) := putsS sLt [] (varL l)
theorem varsB_eq (l : List GTerm) : Lib.compact (sortL sLt (varL l)) = varsB l :=
  compact_sort sLess_sto (SS.puts sLess_sto SS.nil) fun x => by rw [varsB, mem_putsS]; simp
theorem varL_len (l : List GTerm) : (varL l).length ≤ l.length := fm_len _ _ _
theorem contains_any' (l : List (List UInt8)) (v : List UInt8) : l.contains v = l.any (fun x => x == v) := by
  rw [List.contains_eq_any_beq]; congr 1; funext x; exact Bool.eq_iff_iff.2 ⟨fun h => by rw [beq_iff_eq] at h ⊢; exact h.symm, fun h => by rw [beq_iff_eq] at h ⊢; exact h.symm⟩
def tEq (a b : GTerm) : Bool := a.Var == b.Var && (a.Val.N == b.Val.N && a.Val.S == b.Val.S)
end Go.Aw
