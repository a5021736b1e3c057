/- Levels of views: what they are. No condition. -/
import Derived.Test.YthlbadfickhkfaaGreatzfT2
import Derived.Test.YthlbadfickhkfaaGreatzfT3
namespace Go.Aw
open Go.Proofs
attribute [local irreducible] aft blk lpK retK AW A0l
set_option linter.unusedVariables false
set_option linter.unusedSimpArgs false
set_option maxRecDepth 100000
theorem a6d (q : Nat → Bool) : ∀ n, (∀ j, j < n → q j = false) ∨ ∃ i, i < n ∧ (∀ j, j < i → q j = false) ∧ q i = true
 | 0 => .inl fun j hj => by omega
 | n + 1 => by
   rcases a6d q n with h | ⟨i, hi, h1, h2⟩
   ·cases hq : q n with
    | true => exact .inr ⟨n, by omega, h, hq⟩
    | false => exact .inl (a8D h hq)
   ·exact .inr ⟨i, by omega, h1, h2⟩
theorem c0h {p : c8} (h : (f9 p).1 = 0) : l9 p = true ∧ (∀ j, j < p.Decls.length → l7 p j = false) ∧ ∀ j, j < p.Rules.length → n0 p j = false := by
 cases hB : l9 p with
 | false => rw [a0K hB] at h; simp at h
 | true =>
   rcases a6d (l7 p) p.Decls.length with hd | ⟨i, hi, h1, h2⟩
   ·rcases a6d (n0 p) p.Rules.length with hr | ⟨i, hi, h1, h2⟩
    ·exact ⟨rfl, hd, hr⟩
    ·rw [a1f hB hd hi h1 h2] at h
     simp only at h
     rw [n0, h] at h2
     simp at h2
   ·rw [v7 hB hi h1 h2] at h; simp at h
theorem b7d {p : c8} (hd : ∀ j, j < p.Decls.length → l7 p j = false) {i j : Nat} (hi : i < p.Decls.length) (hj : j < i) : (p.Decls.getD j default).Name ≠ (p.Decls.getD i default).Name := by
 have h := hd i hi
 simp only [l7, Bool.or_eq_false_iff, List.any_eq_false] at h
 intro e
 refine h.2 (p.Decls.getD j default) ?_ (by simpa using e)
 rw [a2A default (by omega)]
 exact List.mem_take_iff_getElem.2 ⟨j, by omega, rfl⟩
def vwN (p : c8) : List (List UInt8) := (p.Decls.filter fun d => d.Kind == 3).map c7.Name
def vwS (p : c8) : List (List UInt8) := a4K sLt [] (vwN p)
abbrev Lev := List UInt8 → Int
def upd (g : Lev) (v : List UInt8) (n : Int) : Lev := fun x => if x = v then n else g x
def negL (l : c9) : Int := if l.Kind = 2 then 1 else 0
def litFx (p : c8) (g : Lev) (h : List UInt8) (l : c9) : Prop := l.Kind ≠ 3 → l.Atom.Name ∈ vwS p → g l.Atom.Name + negL l ≤ g h
def ruleFx (p : c8) (g : Lev) (r : c6) : Prop := r.Head.Name ∈ vwS p → ∀ l ∈ r.Body, litFx p g r.Head.Name l
def Fx (p : c8) (g : Lev) : Prop := ∀ r ∈ p.Rules, ruleFx p g r
structure Low (p : c8) (g : Lev) : Prop where
 ge : ∀ v, 0 ≤ g v
 mn : ∀ F, Fx p F → (∀ v, 0 ≤ F v) → ∀ v ∈ vwS p, g v ≤ F v
structure Least (p : c8) (g : Lev) : Prop where
 fx : Fx p g
 low : Low p g
 le : ∀ v ∈ vwS p, g v ≤ (vwS p).length
theorem Low.zero (p : c8) : Low p fun _ => 0 := ⟨fun _ => Int.le_refl _, fun F _ h v _ => h v⟩
theorem Low.up {p : c8} {g : Lev} (h : Low p g) {r : c6} (hr : r ∈ p.Rules) (hh : r.Head.Name ∈ vwS p) {l : c9} (hl : l ∈ r.Body) (hk : l.Kind ≠ 3) (hb : l.Atom.Name ∈ vwS p) : Low p (upd g r.Head.Name (g l.Atom.Name + negL l)) := by
 have hn : 0 ≤ negL l := by unfold negL; split <;> omega
 refine ⟨fun v => ?_, fun F hF hF0 v hv => ?_⟩
 ·unfold upd
  split
  ·have := h.ge l.Atom.Name; omega
  ·exact h.ge v
 ·unfold upd
  split
  ·rename_i e
   subst e
   have h1 := hF r hr hh l hl hk hb
   have h2 := h.mn F hF hF0 _ hb
   omega
  ·exact h.mn F hF hF0 v hv
end Go.Aw
