/- Lists in a strict order: what is in them decides them; putting in, sorting, striking out what stands twice. No program. No condition. -/
import Derived.Lib.SlicesCompact
import GoSem.Op.String
namespace Go.Aw
set_option linter.unusedVariables false
set_option linter.unusedSimpArgs false
structure STO {α : Type} (lt : α → α → Bool) : Prop where
 irr : ∀ x, lt x x = false
 tr : ∀ x y z, lt x y = true → lt y z = true → lt x z = true
 tri : ∀ x y, lt x y = false → lt y x = false → x = y
theorem STO.asy {α : Type} {lt : α → α → Bool} (o : STO lt) {x y : α} (h : lt x y = true) : lt y x = false := by
 cases e : lt y x with
 | false => rfl
 | true => have := o.tr x y x h e; rw [o.irr] at this; cases this
theorem STO.ne {α : Type} {lt : α → α → Bool} (o : STO lt) {x y : α} (h : lt x y = true) : x ≠ y := by
 rintro rfl
 rw [o.irr] at h
 cases h
def SS {α : Type} (lt : α → α → Bool) (l : List α) : Prop := l.Pairwise fun a b => lt a b = true
theorem SS.uniq {α : Type} {lt : α → α → Bool} (o : STO lt) : ∀ {l r : List α}, SS lt l → SS lt r → (∀ x, x ∈ l ↔ x ∈ r) → l = r
 | [], [], _, _, _ => rfl
 | [], y :: r, _, _, h => absurd ((h y).2 (by simp)) (by simp)
 | x :: l, [], _, _, h => absurd ((h x).1 (by simp)) (by simp)
 | x :: l, y :: r, hl, hr, h => by
   unfold SS at hl hr
   rw [List.pairwise_cons] at hl hr
   have e : x = y := by
    rcases List.mem_cons.1 ((h x).1 (by simp)) with e | hx
    ·exact e
    ·rcases List.mem_cons.1 ((h y).2 (by simp)) with e | hy
     ·exact e.symm
     ·have h1 := hr.1 x hx
      have h2 := hl.1 y hy
      rw [o.asy h1] at h2
      cases h2
   subst e
   congr 1
   refine SS.uniq o hl.2 hr.2 fun z => ⟨fun hz => ?_, fun hz => ?_⟩
   ·rcases List.mem_cons.1 ((h z).1 (by simp [hz])) with rfl | hz'
    ·exact absurd (hl.1 z hz) (by rw [o.irr]; simp)
    ·exact hz'
   ·rcases List.mem_cons.1 ((h z).2 (by simp [hz])) with rfl | hz'
    ·exact absurd (hr.1 z hz) (by rw [o.irr]; simp)
    ·exact hz'
def putS {α : Type} [DecidableEq α] (lt : α → α → Bool) (l : List α) (s : α) : List α := if s ∈ l then l else l.takeWhile (fun x => !lt s x) ++ s :: l.dropWhile (fun x => !lt s x)
theorem a2q {α : Type} {p : α → Bool} : ∀ {l : List α} {x : α} {r : List α}, l.dropWhile p = x :: r → p x = false
 | [], x, r, h => by simp at h
 | y :: l, x, r, h => by
   rw [List.dropWhile_cons] at h
   split at h
   ·exact a2q h
   ·rename_i hp
    simp only [List.cons.injEq] at h
    rw [← h.1]
    simpa using hp
theorem SS.put {α : Type} [DecidableEq α] {lt : α → α → Bool} (o : STO lt) {l : List α} (h : SS lt l) (s : α) : SS lt (putS lt l s) := by
 unfold putS
 split
 ·exact h
 ·rename_i hs
  have e := List.takeWhile_append_dropWhile (p := fun x => !lt s x) (l := l)
  have h0 := h
  rw [← e] at h
  unfold SS at h ⊢
  rw [List.pairwise_append] at h ⊢
  have h1 : ∀ x ∈ l.takeWhile (fun x => !lt s x), lt x s = true := by
   intro x hx
   have hp : lt s x = false := by
    have := List.all_takeWhile (p := fun x => !lt s x) (l := l)
    rw [List.all_eq_true] at this
    simpa using this x hx
   have hne : x ≠ s := fun q => hs (by rw [← q]; rw [← e]; exact List.mem_append_left _ hx)
   cases hq : lt x s with
   | true => rfl
   | false => exact absurd (o.tri x s hq hp) hne
  have h2 : ∀ x ∈ l.dropWhile (fun x => !lt s x), lt s x = true := by
   cases hd : l.dropWhile (fun x => !lt s x) with
   | nil => intro x hx; cases hx
   | cons y r =>
     have hy : lt s y = true := by simpa using a2q hd
     intro x hx
     rcases List.mem_cons.1 hx with rfl | hx
     ·exact hy
     ·have h3 := h.2.1
      rw [hd, List.pairwise_cons] at h3
      exact o.tr _ _ _ hy (h3.1 x hx)
  refine ⟨h.1, ?_, ?_⟩
  ·rw [List.pairwise_cons]
   exact ⟨h2, h.2.1⟩
  ·intro a ha b hb
   rcases List.mem_cons.1 hb with rfl | hb
   ·exact h1 a ha
   ·exact h.2.2 a ha b hb
def putsS {α : Type} [DecidableEq α] (lt : α → α → Bool) (l r : List α) : List α := r.foldl (putS lt) l
theorem SS.puts {α : Type} [DecidableEq α] {lt : α → α → Bool} (o : STO lt) : ∀ {r l : List α}, SS lt l → SS lt (putsS lt l r)
 | [], l, h => h
 | y :: r, l, h => by
   unfold putsS
   rw [List.foldl_cons]
   exact SS.puts o (h.put o y)
theorem SS.filter {α : Type} {lt : α → α → Bool} {l : List α} (h : SS lt l) (p : α → Bool) : SS lt (l.filter p) := List.Pairwise.filter p h
theorem SS.nil {α : Type} {lt : α → α → Bool} : SS lt ([] : List α) := List.Pairwise.nil
theorem a1g : ∀ x : List UInt8, Op.bytesLess x x = false
 | [] => rfl
 | a :: l => by simp [Op.bytesLess, a1g l]
theorem a2B : ∀ x y : List UInt8, Op.bytesLess x y = false → Op.bytesLess y x = false → x = y
 | [], [], _, _ => rfl
 | [], b :: r, h, _ => by simp [Op.bytesLess] at h
 | a :: l, [], _, h => by simp [Op.bytesLess] at h
 | a :: l, b :: r, h1, h2 => by
   simp only [Op.bytesLess] at h1 h2
   have : ∀ c d : UInt8, c < d ∨ c = d ∨ d < c := by intro c d; rcases Nat.lt_trichotomy c.toNat d.toNat with h | h | h; exact .inl h; exact .inr (.inl (UInt8.toNat_inj.1 h)); exact .inr (.inr h)
   rcases this a b with h | h | h
   ·simp [h] at h1
   ·subst h
    simp only [UInt8.lt_irrefl, decide_false, Bool.false_or, beq_self_eq_true, Bool.true_and] at h1 h2
    first | rw [a2B l r h1 h2] | (simp at h1 h2; rw [a2B l r h1 h2])
   ·simp [h] at h2
theorem a3R : ∀ x y z : List UInt8, Op.bytesLess x y = true → Op.bytesLess y z = true → Op.bytesLess x z = true
 | _, [], _, h, _ => by simp [Op.bytesLess] at h
 | [], _ :: _, [], _, h => by simp [Op.bytesLess] at h
 | [], _ :: _, _ :: _, _, _ => rfl
 | _ :: _, _ :: _, [], _, h => by simp [Op.bytesLess] at h
 | a :: l, b :: r, c :: s, h1, h2 => by
   simp only [Op.bytesLess, Bool.or_eq_true, Bool.and_eq_true, decide_eq_true_eq, beq_iff_eq] at h1 h2 ⊢
   rcases h1 with h1 | ⟨rfl, h1⟩
   ·rcases h2 with h2 | ⟨rfl, h2⟩
    ·exact .inl (UInt8.lt_trans h1 h2)
    ·exact .inl h1
   ·rcases h2 with h2 | ⟨rfl, h2⟩
    ·exact .inl h2
    ·exact .inr ⟨rfl, a3R l r s h1 h2⟩
theorem b1l : STO Op.bytesLess := ⟨a1g, a3R, a2B⟩
end Go.Aw
