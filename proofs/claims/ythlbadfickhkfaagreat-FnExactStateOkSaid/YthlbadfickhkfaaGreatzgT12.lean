/- Levels of views: what they are. No condition. -/
import Derived.Test.YthlbadfickhkfaaGreatzgT2
import Derived.Test.YthlbadfickhkfaaGreatzgT3
namespace Go.Aw
open Go.Proofs
attribute [local irreducible] aft blk lpK retK AW A0l
set_option linter.unusedVariables false
set_option linter.unusedSimpArgs false
set_option maxRecDepth 100000
theorem a8J (q : Nat → Bool) : ∀ n, (∀ j, j < n → q j = false) ∨ ∃ i, i < n ∧ (∀ j, j < i → q j = false) ∧ q i = true
 | 0 => .inl fun j hj => by omega
 | n + 1 => by
   rcases a8J q n with h | ⟨i, hi, h1, h2⟩
   ·cases hq : q n with
    | true => exact .inr ⟨n, by omega, h, hq⟩
    | false => exact .inl (b1Y h hq)
   ·exact .inr ⟨i, by omega, h1, h2⟩
theorem b7I {p : c7} (h : (i4 p).1 = 0) : l4 p = true ∧ (∀ j, j < p.Decls.length → l5 p j = false) ∧ ∀ j, j < p.Rules.length → o7 p j = false := by
 cases hB : l4 p with
 | false => rw [a1x hB] at h; simp at h
 | true =>
   rcases a8J (l5 p) p.Decls.length with hd | ⟨i, hi, h1, h2⟩
   ·rcases a8J (o7 p) p.Rules.length with hr | ⟨i, hi, h1, h2⟩
    ·exact ⟨rfl, hd, hr⟩
    ·rw [a2c hB hd hi h1 h2] at h
     simp only at h
     rw [o7, h] at h2
     simp at h2
   ·rw [a0h hB hi h1 h2] at h; simp at h
theorem b0z {p : c7} (hd : ∀ j, j < p.Decls.length → l5 p j = false) {i j : Nat} (hi : i < p.Decls.length) (hj : j < i) : (p.Decls.getD j default).Name ≠ (p.Decls.getD i default).Name := by
 have h := hd i hi
 simp only [l5, Bool.or_eq_false_iff, List.any_eq_false] at h
 intro e
 refine h.2 (p.Decls.getD j default) ?_ (by simpa using e)
 rw [m0 default (by omega)]
 exact List.mem_take_iff_getElem.2 ⟨j, by omega, rfl⟩
def vwN (p : c7) : List (List UInt8) := (p.Decls.filter fun d => d.Kind == 3).map c8.Name
def vwS (p : c7) : List (List UInt8) := j8 sLt [] (vwN p)
theorem vwS_SS (p : c7) : SS sLt (vwS p) := SS.puts m8 SS.nil
theorem b3B (p : c7) : (vwS p).Nodup := (vwS_SS p).nodup m8
theorem mem_vwS {p : c7} {v : List UInt8} : v ∈ vwS p ↔ ∃ d ∈ p.Decls, d.Kind = 3 ∧ d.Name = v := by
 rw [vwS, p7, vwN]
 simp only [List.not_mem_nil, false_or, List.mem_map, List.mem_filter, beq_iff_eq, and_assoc]
theorem a1g {p : c7} (hd : ∀ j, j < p.Decls.length → l5 p j = false) {v : List UInt8} : v5 p v = 3 ↔ v ∈ vwS p := by
 rw [mem_vwS]
 constructor
 ·intro h
  have hs : u2 p v = true := by
   cases hs : u2 p v with
   | true => rfl
   | false => rw [v5, (a8H hs).1] at h; exact absurd h (by decide)
  obtain ⟨x, hx, hp, e⟩ := c1M hs
  rw [v5, o8, e] at h
  exact ⟨x, hx, h, by simpa using hp⟩
 ·rintro ⟨d, hm, hk, rfl⟩
  obtain ⟨i, hi, rfl⟩ := List.getElem_of_mem hm
  have e : p.Decls.getD i default = p.Decls[i] := m0 default hi
  have ha : ((p.Decls.take i).any fun d => d.Name == (p.Decls[i]).Name) = false := by
   rw [List.any_eq_false]
   intro x hx
   obtain ⟨j, hj, rfl⟩ := List.mem_take_iff_getElem.1 hx
   have h1 := b0z hd hi (j := j) (by omega)
   rw [e, m0 default (by omega)] at h1
   simpa using h1
  rw [v5, (b2K hi ha (by rw [e]; simp)).1, e]
  exact hk
theorem c4e {p : c7} (hr : ∀ j, j < p.Rules.length → o7 p j = false) {i : Nat} (hi : i < p.Rules.length) (hk : v5 p (p.Rules.getD i default).Head.Name = 3) : (p.Rules.getD i default).Kind = 1 := by
 have h : l6 p (p.Rules.getD i default) = 0 := by
  have h := hr i hi
  rw [o7, Bool.not_eq_false', beq_iff_eq] at h
  exact h
 generalize p.Rules.getD i default = r at h hk ⊢
 refine Classical.byContradiction fun hne => ?_
 have hb : a4c p r = true := by rw [a4c, show (r.Kind == 1) = false from beq_eq_false_iff_ne.2 hne, cond_false, hk]; rfl
 unfold l6 at h
 rw [hb] at h
 cases h1 : (k8 r).any (a2j p) <;> rw [h1] at h <;> cases h2 : (k8 r).any (a2k p) <;> rw [h2] at h <;> simp at h
abbrev Lev := List UInt8 → Int
def lvl (p : c7) (g : Lev) : List d7 := (vwS p).map fun v => ⟨v, g v⟩
def upd (g : Lev) (v : List UInt8) (n : Int) : Lev := fun x => if x = v then n else g x
def a8C (l : d3) : Int := if l.Kind = 2 then 1 else 0
def a1F (p : c7) (g : Lev) (h : List UInt8) (l : d3) : Prop := l.Kind ≠ 3 → l.Atom.Name ∈ vwS p → g l.Atom.Name + a8C l ≤ g h
def t9 (p : c7) (g : Lev) (r : c6) : Prop := r.Head.Name ∈ vwS p → ∀ l ∈ r.Body, a1F p g r.Head.Name l
def Fx (p : c7) (g : Lev) : Prop := ∀ r ∈ p.Rules, t9 p g r
structure Low (p : c7) (g : Lev) : Prop where
 ge : ∀ v, 0 ≤ g v
 mn : ∀ F, Fx p F → (∀ v, 0 ≤ F v) → ∀ v ∈ vwS p, g v ≤ F v
structure Least (p : c7) (g : Lev) : Prop where
 fx : Fx p g
 low : Low p g
 le : ∀ v ∈ vwS p, g v ≤ (vwS p).length
open Classical in
noncomputable def t5 (p : c7) : List d7 × Bool := bif (i4 p).1 == 0 then (if h : ∃ g, Least p g then (lvl p h.choose, true) else ([], false)) else ([], false)
theorem c7a {p : c7} {g g' : Lev} (h : ∀ v ∈ vwS p, g v = g' v) : lvl p g = lvl p g' := List.map_congr_left fun v hv => by rw [h v hv]
theorem b7H {p : c7} (h : ((i4 p).1 == 0) = true) {g : Lev} (hg : Least p g) : t5 p = (lvl p g, true) := by
 have hx : ∃ g, Least p g := ⟨g, hg⟩
 rw [t5, h, cond_true, dif_pos hx]
 have h2 := hx.choose_spec
 refine congrArg (·, true) (c7a fun v hv => Int.le_antisymm ?_ ?_)
 ·exact h2.low.mn g hg.fx hg.low.ge v hv
 ·exact hg.low.mn _ h2.fx h2.low.ge v hv
theorem b9E {p : c7} {g : Lev} (hg : Low p g) {v : List UInt8} (hv : v ∈ vwS p) (hn : ((vwS p).length : Int) < g v) : t5 p = ([], false) := by
 rw [t5]
 cases (i4 p).1 == 0 with
 | false => rfl
 | true =>
   rw [cond_true, dif_neg]
   rintro ⟨F, hF⟩
   have h1 := hg.mn F hF.fx hF.low.ge v hv
   have h2 := hF.le v hv
   omega
theorem Low.zero (p : c7) : Low p fun _ => 0 := ⟨fun _ => Int.le_refl _, fun F _ h v _ => h v⟩
theorem Low.up {p : c7} {g : Lev} (h : Low p g) {r : c6} (hr : r ∈ p.Rules) (hh : r.Head.Name ∈ vwS p) {l : d3} (hl : l ∈ r.Body) (hk : l.Kind ≠ 3) (hb : l.Atom.Name ∈ vwS p) : Low p (upd g r.Head.Name (g l.Atom.Name + a8C l)) := by
 have hn : 0 ≤ a8C l := by unfold a8C; split <;> omega
 refine ⟨fun v => ?_, fun F hF hF0 v hv => ?_⟩
 ·unfold upd
  split
  ·have := h.ge l.Atom.Name; omega
  ·exact h.ge v
 ·unfold upd
  split
  ·rename_i e
   subst e
   have h1 := hF r hr hh l hl hk hb
   have h2 := h.mn F hF hF0 _ hb
   omega
  ·exact h.mn F hF hF0 v hv
def a1G (p : c7) (g : Lev) : Nat := l3 (fun v => ((vwS p).length + 400 - g v).toNat) (vwS p)
theorem c5u {α : Type} [DecidableEq α] {f f' : α → Nat} {x : α} : ∀ {l : List α}, l.Nodup → x ∈ l → (∀ y, y ≠ x → f' y = f y) → f' x < f x → l3 f' l < l3 f l
 | [], _, hx, _, _ => by simp at hx
 | y :: l, hn, hx, h1, h2 => by
   rw [List.nodup_cons] at hn
   simp only [l3]
   by_cases e : y = x
   ·subst e
    have : ∀ {m : List α}, ¬ y ∈ m → l3 f' m = l3 f m := by
     intro m
     induction m with
     | nil => intro _; rfl
     | cons z m ih =>
       intro hm
       simp only [List.mem_cons, not_or] at hm
       simp only [l3, h1 z (fun e => hm.1 e.symm), ih hm.2]
    rw [this hn.1]; omega
   ·have hx' : x ∈ l := by
     rcases List.mem_cons.1 hx with h | h
     ·exact absurd h.symm e
     ·exact h
    have := c5u hn.2 hx' h1 h2
    rw [h1 y e]; omega
theorem lsum_lt {p : c7} {g : Lev} {v : List UInt8} {n : Int} (hv : v ∈ vwS p) (h : g v < n) (hn : g v < (vwS p).length + 400) : a1G p (upd g v n) < a1G p g := by
 refine c5u (b3B p) hv (fun y hy => by simp [upd, hy]) ?_
 simp only [upd, if_true]
 omega
theorem b2a (p : c7) (g : Lev) : (lvl p g).length = (vwS p).length := by simp [lvl]
theorem c2l (p : c7) (g : Lev) {i : Nat} (h : i < (vwS p).length) : (lvl p g).getD i default = ⟨(vwS p).getD i [], g ((vwS p).getD i [])⟩ := by
 rw [m0 _ (by rw [b2a]; exact h), m0 _ h]
 simp [lvl]
theorem c5q (p : c7) (g : Lev) {i : Nat} (h : i < (vwS p).length) (n : Int) : (lvl p g).set i ⟨(vwS p).getD i [], n⟩ = lvl p (upd g ((vwS p).getD i []) n) := by
 have e0 : (vwS p).getD i [] = (vwS p)[i] := m0 [] h
 rw [e0]
 apply List.ext_getElem
 ·simp [lvl]
 ·intro j h1 h2
  have hj : j < (vwS p).length := by simpa [lvl] using h2
  rw [List.getElem_set]
  split
  ·rename_i e
   subst e
   simp [lvl, upd]
  ·rename_i e
   have hne : (vwS p)[j] ≠ (vwS p)[i] := fun h3 => e ((List.getElem_inj (b3B p)).1 h3).symm
   simp [lvl, upd, hne]
end Go.Aw
