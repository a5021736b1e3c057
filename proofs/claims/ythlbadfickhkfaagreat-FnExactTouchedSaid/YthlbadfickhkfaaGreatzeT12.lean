/- Levels of views: what they are. No condition. -/
import Derived.Test.YthlbadfickhkfaaGreatzeT2
import Derived.Test.YthlbadfickhkfaaGreatzeT3
namespace Go.Aw
open Go.Proofs
attribute [local irreducible] aft blk lpK retK AW A0l
set_option linter.unusedVariables false
set_option linter.unusedSimpArgs false
set_option maxRecDepth 100000
theorem b2e (q : Nat → Bool) : ∀ n, (∀ j, j < n → q j = false) ∨ ∃ i, i < n ∧ (∀ j, j < i → q j = false) ∧ q i = true
 | 0 => .inl fun j hj => by omega
 | n + 1 => by
   rcases b2e q n with h | ⟨i, hi, h1, h2⟩
   ·cases hq : q n with
    | true => exact .inr ⟨n, by omega, h, hq⟩
    | false => exact .inl (b0D h hq)
   ·exact .inr ⟨i, by omega, h1, h2⟩
theorem b5G {p : c6} (h : (g9 p).1 = 0) : j7 p = true ∧ (∀ j, j < p.Decls.length → l5 p j = false) ∧ ∀ j, j < p.Rules.length → o5 p j = false := by
 cases hB : j7 p with
 | false => rw [a1u hB] at h; simp at h
 | true =>
   rcases b2e (l5 p) p.Decls.length with hd | ⟨i, hi, h1, h2⟩
   ·rcases b2e (o5 p) p.Rules.length with hr | ⟨i, hi, h1, h2⟩
    ·exact ⟨rfl, hd, hr⟩
    ·rw [a1O hB hd hi h1 h2] at h
     simp only at h
     rw [o5, h] at h2
     simp at h2
   ·rw [a0e hB hi h1 h2] at h; simp at h
theorem a9d {p : c6} (hd : ∀ j, j < p.Decls.length → l5 p j = false) {i j : Nat} (hi : i < p.Decls.length) (hj : j < i) : (p.Decls.getD j default).Name ≠ (p.Decls.getD i default).Name := by
 have h := hd i hi
 simp only [l5, Bool.or_eq_false_iff, List.any_eq_false] at h
 intro e
 refine h.2 (p.Decls.getD j default) ?_ (by simpa using e)
 rw [l9 default (by omega)]
 exact List.mem_take_iff_getElem.2 ⟨j, by omega, rfl⟩
def vwN (p : c6) : List (List UInt8) := (p.Decls.filter fun d => d.Kind == 3).map c7.Name
def vwS (p : c6) : List (List UInt8) := j1 sLt [] (vwN p)
theorem c1v (p : c6) : SS sLt (vwS p) := SS.puts j3 SS.nil
theorem b2k (p : c6) : (vwS p).Nodup := (c1v p).nodup j3
theorem c2m {p : c6} {v : List UInt8} : v ∈ vwS p ↔ ∃ d ∈ p.Decls, d.Kind = 3 ∧ d.Name = v := by
 rw [vwS, m7, vwN]
 simp only [List.not_mem_nil, false_or, List.mem_map, List.mem_filter, beq_iff_eq, and_assoc]
theorem a1b {p : c6} (hd : ∀ j, j < p.Decls.length → l5 p j = false) {v : List UInt8} : u0 p v = 3 ↔ v ∈ vwS p := by
 rw [c2m]
 constructor
 ·intro h
  have hs : s9 p v = true := by
   cases hs : s9 p v with
   | true => rfl
   | false => rw [u0, (a7D hs).1] at h; exact absurd h (by decide)
  obtain ⟨x, hx, hp, e⟩ := b8Y hs
  rw [u0, n8, e] at h
  exact ⟨x, hx, h, by simpa using hp⟩
 ·rintro ⟨d, hm, hk, rfl⟩
  obtain ⟨i, hi, rfl⟩ := List.getElem_of_mem hm
  have e : p.Decls.getD i default = p.Decls[i] := l9 default hi
  have ha : ((p.Decls.take i).any fun d => d.Name == (p.Decls[i]).Name) = false := by
   rw [List.any_eq_false]
   intro x hx
   obtain ⟨j, hj, rfl⟩ := List.mem_take_iff_getElem.1 hx
   have h1 := a9d hd hi (j := j) (by omega)
   rw [e, l9 default (by omega)] at h1
   simpa using h1
  rw [u0, (b1o hi ha (by rw [e]; simp)).1, e]
  exact hk
theorem c1k {p : c6} (hr : ∀ j, j < p.Rules.length → o5 p j = false) {i : Nat} (hi : i < p.Rules.length) (hk : u0 p (p.Rules.getD i default).Head.Name = 3) : (p.Rules.getD i default).Kind = 1 := by
 have h : l6 p (p.Rules.getD i default) = 0 := by
  have h := hr i hi
  rw [o5, Bool.not_eq_false', beq_iff_eq] at h
  exact h
 generalize p.Rules.getD i default = r at h hk ⊢
 refine Classical.byContradiction fun hne => ?_
 have hb : a3L p r = true := by rw [a3L, show (r.Kind == 1) = false from beq_eq_false_iff_ne.2 hne, cond_false, hk]; rfl
 unfold l6 at h
 rw [hb] at h
 cases h1 : (i5 r).any (a1Z p) <;> rw [h1] at h <;> cases h2 : (i5 r).any (a2a p) <;> rw [h2] at h <;> simp at h
abbrev Lev := List UInt8 → Int
def lvl (p : c6) (g : Lev) : List d4 := (vwS p).map fun v => ⟨v, g v⟩
def upd (g : Lev) (v : List UInt8) (n : Int) : Lev := fun x => if x = v then n else g x
def a7B (l : c8) : Int := if l.Kind = 2 then 1 else 0
def a1B (p : c6) (g : Lev) (h : List UInt8) (l : c8) : Prop := l.Kind ≠ 3 → l.Atom.Name ∈ vwS p → g l.Atom.Name + a7B l ≤ g h
def s6 (p : c6) (g : Lev) (r : c4) : Prop := r.Head.Name ∈ vwS p → ∀ l ∈ r.Body, a1B p g r.Head.Name l
def Fx (p : c6) (g : Lev) : Prop := ∀ r ∈ p.Rules, s6 p g r
structure Low (p : c6) (g : Lev) : Prop where
 ge : ∀ v, 0 ≤ g v
 mn : ∀ F, Fx p F → (∀ v, 0 ≤ F v) → ∀ v ∈ vwS p, g v ≤ F v
structure Least (p : c6) (g : Lev) : Prop where
 fx : Fx p g
 low : Low p g
 le : ∀ v ∈ vwS p, g v ≤ (vwS p).length
open Classical in
noncomputable def s4 (p : c6) : List d4 × Bool := bif (g9 p).1 == 0 then (if h : ∃ g, Least p g then (lvl p h.choose, true) else ([], false)) else ([], false)
theorem c3P {p : c6} {g g' : Lev} (h : ∀ v ∈ vwS p, g v = g' v) : lvl p g = lvl p g' := List.map_congr_left fun v hv => by rw [h v hv]
theorem b5C {p : c6} (h : ((g9 p).1 == 0) = true) {g : Lev} (hg : Least p g) : s4 p = (lvl p g, true) := by
 have hx : ∃ g, Least p g := ⟨g, hg⟩
 rw [s4, h, cond_true, dif_pos hx]
 have h2 := hx.choose_spec
 refine congrArg (·, true) (c3P fun v hv => Int.le_antisymm ?_ ?_)
 ·exact h2.low.mn g hg.fx hg.low.ge v hv
 ·exact hg.low.mn _ h2.fx h2.low.ge v hv
theorem b7e {p : c6} {g : Lev} (hg : Low p g) {v : List UInt8} (hv : v ∈ vwS p) (hn : ((vwS p).length : Int) < g v) : s4 p = ([], false) := by
 rw [s4]
 cases (g9 p).1 == 0 with
 | false => rfl
 | true =>
   rw [cond_true, dif_neg]
   rintro ⟨F, hF⟩
   have h1 := hg.mn F hF.fx hF.low.ge v hv
   have h2 := hF.le v hv
   omega
theorem Low.zero (p : c6) : Low p fun _ => 0 := ⟨fun _ => Int.le_refl _, fun F _ h v _ => h v⟩
theorem Low.up {p : c6} {g : Lev} (h : Low p g) {r : c4} (hr : r ∈ p.Rules) (hh : r.Head.Name ∈ vwS p) {l : c8} (hl : l ∈ r.Body) (hk : l.Kind ≠ 3) (hb : l.Atom.Name ∈ vwS p) : Low p (upd g r.Head.Name (g l.Atom.Name + a7B l)) := by
 have hn : 0 ≤ a7B l := by unfold a7B; split <;> omega
 refine ⟨fun v => ?_, fun F hF hF0 v hv => ?_⟩
 ·unfold upd
  split
  ·have := h.ge l.Atom.Name; omega
  ·exact h.ge v
 ·unfold upd
  split
  ·rename_i e
   subst e
   have h1 := hF r hr hh l hl hk hb
   have h2 := h.mn F hF hF0 _ hb
   omega
  ·exact h.mn F hF hF0 v hv
def a1C (p : c6) (g : Lev) : Nat := i9 (fun v => ((vwS p).length + 400 - g v).toNat) (vwS p)
theorem c2u {α : Type} [DecidableEq α] {f f' : α → Nat} {x : α} : ∀ {l : List α}, l.Nodup → x ∈ l → (∀ y, y ≠ x → f' y = f y) → f' x < f x → i9 f' l < i9 f l
 | [], _, hx, _, _ => by simp at hx
 | y :: l, hn, hx, h1, h2 => by
   rw [List.nodup_cons] at hn
   simp only [i9]
   by_cases e : y = x
   ·subst e
    have : ∀ {m : List α}, ¬ y ∈ m → i9 f' m = i9 f m := by
     intro m
     induction m with
     | nil => intro _; rfl
     | cons z m ih =>
       intro hm
       simp only [List.mem_cons, not_or] at hm
       simp only [i9, h1 z (fun e => hm.1 e.symm), ih hm.2]
    rw [this hn.1]; omega
   ·have hx' : x ∈ l := by
     rcases List.mem_cons.1 hx with h | h
     ·exact absurd h.symm e
     ·exact h
    have := c2u hn.2 hx' h1 h2
    rw [h1 y e]; omega
theorem lsum_lt {p : c6} {g : Lev} {v : List UInt8} {n : Int} (hv : v ∈ vwS p) (h : g v < n) (hn : g v < (vwS p).length + 400) : a1C p (upd g v n) < a1C p g := by
 refine c2u (b2k p) hv (fun y hy => by simp [upd, hy]) ?_
 simp only [upd, if_true]
 omega
theorem b0F (p : c6) (g : Lev) : (lvl p g).length = (vwS p).length := by simp [lvl]
theorem b9y (p : c6) (g : Lev) {i : Nat} (h : i < (vwS p).length) : (lvl p g).getD i default = ⟨(vwS p).getD i [], g ((vwS p).getD i [])⟩ := by
 rw [l9 _ (by rw [b0F]; exact h), l9 _ h]
 simp [lvl]
theorem c2l (p : c6) (g : Lev) {i : Nat} (h : i < (vwS p).length) (n : Int) : (lvl p g).set i ⟨(vwS p).getD i [], n⟩ = lvl p (upd g ((vwS p).getD i []) n) := by
 have e0 : (vwS p).getD i [] = (vwS p)[i] := l9 [] h
 rw [e0]
 apply List.ext_getElem
 ·simp [lvl]
 ·intro j h1 h2
  have hj : j < (vwS p).length := by simpa [lvl] using h2
  rw [List.getElem_set]
  split
  ·rename_i e
   subst e
   simp [lvl, upd]
  ·rename_i e
   have hne : (vwS p)[j] ≠ (vwS p)[i] := fun h3 => e ((List.getElem_inj (b2k p)).1 h3).symm
   simp [lvl, upd, hne]
end Go.Aw
