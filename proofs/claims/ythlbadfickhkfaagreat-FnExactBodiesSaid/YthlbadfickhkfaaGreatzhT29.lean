/- What fits is filled back: the mathematics. No condition. -/
import Derived.Test.YthlbadfickhkfaaGreatzhT25
namespace Go.Aw
open Go.Proofs
set_option linter.unusedVariables false
set_option linter.unusedSimpArgs false
set_option maxRecDepth 100000
theorem a1h (l : List c7) (v : List UInt8) : l6 ⟨l⟩ v = match l.find? (fun b => b.Var == v) with | some b => (b.Val, true) | none => (default, false) := by
 cases h : l.find? (fun b => b.Var == v) with
 | none =>
   refine a7V fun j hj => ?_
   have := List.find?_eq_none.1 h (l.getD j default) (by rw [k9 default hj]; exact List.getElem_mem hj)
   simpa using this
 | some b =>
   obtain ⟨hp, l1, l2, rfl, hno⟩ := List.find?_eq_some_iff_append.1 h
   have e : (l1 ++ b :: l2).getD l1.length default = b := by simp
   rw [a7W (e := ⟨l1 ++ b :: l2⟩) (i := l1.length) (by simp) (fun j hj => ?_) (by simp only [e]; exact hp)]
   ·simp only [e]
   ·have hm : (l1 ++ b :: l2).getD j default = l1[j] := by
     rw [List.getD_eq_getElem?_getD, List.getElem?_append_left hj, List.getElem?_eq_getElem hj]; rfl
    simp only [hm]
    have := hno l1[j] (List.getElem_mem hj)
    simpa using this
theorem b5g {l : List c7} {v : List UInt8} (h : (l6 ⟨l⟩ v).2 = false) : l.find? (fun b => b.Var == v) = none := by
 rw [a1h] at h
 cases hf : l.find? (fun b => b.Var == v) with
 | none => rfl
 | some b => rw [hf] at h; cases h
theorem a8f {l : List c7} {v : List UInt8} (h : (l6 ⟨l⟩ v).2 = false) : ¬ v ∈ l.map c7.Var := by
 intro hm
 obtain ⟨b, hb, rfl⟩ := List.mem_map.1 hm
 have := List.find?_eq_none.1 (b5g h) b hb
 simp at this
theorem off_of {l : List c7} {v : List UInt8} (h : ¬ v ∈ l.map c7.Var) : (l6 ⟨l⟩ v).2 = false := by
 rw [a1h, List.find?_eq_none.2 (fun b hb hv => h (List.mem_map.2 ⟨b, hb, by simpa using hv⟩))]
theorem c8c {l : List c7} {v : List UInt8} : (l6 ⟨l⟩ v).2 = true ↔ v ∈ l.map c7.Var := by
 constructor
 ·intro h
  refine Classical.byContradiction fun hn => ?_
  rw [off_of hn] at h; cases h
 ·intro h
  cases hv : (l6 ⟨l⟩ v).2 with
  | true => rfl
  | false => exact absurd h (a8f hv)
theorem b6Z (l : List c7) (v : List UInt8) : l.takeWhile (fun b => !gtB v b) ++ l.dropWhile (fun b => !gtB v b) = l := List.takeWhile_append_dropWhile
theorem c6e {l : List c7} {v w : List UInt8} {x : c6} (hw : w ≠ v) : l6 ⟨w8 l v x⟩ w = l6 ⟨l⟩ w := by
 rw [a1h, a1h]
 conv => rhs; rw [← b6Z l v]
 rw [w8, List.find?_append, List.find?_append, List.find?_cons, show ((v == w) = false) from beq_eq_false_iff_ne.2 (Ne.symm hw)]
theorem c1b {l : List c7} {v : List UInt8} {x : c6} (h : (l6 ⟨l⟩ v).2 = false) : l6 ⟨w8 l v x⟩ v = (x, true) := by
 have h1 := b5g h
 rw [← b6Z l v, List.find?_append] at h1
 rw [a1h, w8, List.find?_append]
 cases h2 : (l.takeWhile fun b => !gtB v b).find? (fun b => b.Var == v) with
 | some b => rw [h2] at h1; cases h1
 | none => simp
theorem c8t {a b : c6} (h : a8X a b = true) : a = b := by
 obtain ⟨n, s⟩ := a
 obtain ⟨m, t⟩ := b
 simp only [a8X, Bool.and_eq_true, beq_iff_eq] at h
 obtain ⟨rfl, rfl⟩ := h
 rfl
def Back (c : List c7) (t : c4) (x : c6) : Prop := i4 ⟨c⟩ t = (x, true)
theorem Back.set {c : List c7} {t : c4} {x y : c6} {v : List UInt8} (h : Back c t x) (hv : (l6 ⟨c⟩ v).2 = false) : Back (w8 c v y) t x := by
 unfold Back at *
 rw [i4] at h ⊢
 cases ht : t.Var == [] with
 | true => rw [ht] at h; exact h
 | false =>
   rw [ht, cond_false] at h
   have hn : t.Var ≠ v := by intro e; rw [← e, h] at hv; cases hv
   rw [cond_false, c6e hn]; exact h
theorem w9 {c : List c7} {t : c4} (h : (i4 ⟨c⟩ t).2 = false) : (t.Var == []) = false ∧ (l6 ⟨c⟩ t.Var).2 = false := by
 rw [i4] at h
 cases ht : t.Var == [] with
 | true => rw [ht] at h; cases h
 | false => rw [ht] at h; exact ⟨rfl, h⟩
theorem a9I {b c : List c7} {t : c4} {v : c6} (h : b7o b t v = some c) : (c = b ∧ Back b t v) ∨ (c = w8 b t.Var v ∧ (t.Var == []) = false ∧ (l6 ⟨b⟩ t.Var).2 = false) := by
 rw [b7o] at h
 cases hv : (i4 ⟨b⟩ t).2 with
 | true =>
   rw [hv, cond_true] at h
   cases hs : a8X (i4 ⟨b⟩ t).1 v with
   | true =>
     rw [hs, cond_true, Option.some.injEq] at h
     refine .inl ⟨h.symm, ?_⟩
     unfold Back
     rw [← c8t hs, ← hv]
   | false => rw [hs] at h; cases h
 | false =>
   rw [hv, cond_false, Option.some.injEq] at h
   exact .inr ⟨h.symm, w9 hv⟩
theorem c6g {b c : List c7} {t : c4} {v : c6} (h : b7o b t v = some c) : Back c t v ∧ ∀ s x, Back b s x → Back c s x := by
 rcases a9I h with ⟨rfl, h1⟩ | ⟨rfl, h1, h2⟩
 ·exact ⟨h1, fun _ _ h => h⟩
 ·refine ⟨?_, fun s x h => h.set h2⟩
  unfold Back
  rw [i4, h1, cond_false, c1b h2]
theorem b1L {b : List c7} {args : List c4} {vs : List c6} : ∀ {n : Nat} {c : List c7}, a0L b args vs n = some c → (∀ i, i < n → Back c (args.getD i default) (vs.getD i default)) ∧ ∀ s x, Back b s x → Back c s x
 | 0, c, h => by
   simp only [a0L, Option.some.injEq] at h
   subst h
   exact ⟨fun i hi => by omega, fun _ _ h => h⟩
 | n + 1, c, h => by
   rw [a0L] at h
   obtain ⟨d, h1, h2⟩ := Option.bind_eq_some_iff.1 h
   obtain ⟨i1, i2⟩ := b1L h1
   obtain ⟨j1, j2⟩ := c6g h2
   refine ⟨fun i hi => ?_, fun s x h => j2 s x (i2 s x h)⟩
   rcases Nat.lt_or_ge i n with h3 | h3
   ·exact j2 _ _ (i1 i h3)
   ·obtain rfl : i = n := by omega
    exact j1
def EnvS (l : List c7) : Prop := (∀ b ∈ l, a3V b.Var = true ∧ i5 b.Val = true) ∧ SS Op.bytesLess (l.map c7.Var)
theorem a2E {l : List c7} {v : List UInt8} (x : c6) (h : ¬ v ∈ l.map c7.Var) : (w8 l v x).map c7.Var = w6 Op.bytesLess (l.map c7.Var) v := by
 rw [w6, if_neg h, List.takeWhile_map, List.dropWhile_map, w8, List.map_append, List.map_cons]; rfl
theorem c8m {l : List c7} {v : List UInt8} {x : c6} {b : c7} : b ∈ w8 l v x ↔ b = ⟨v, x⟩ ∨ b ∈ l := by
 conv => rhs; rw [← b6Z l v]
 rw [w8, List.mem_append, List.mem_cons, List.mem_append]
 constructor
 ·rintro (h | h | h)
  ·exact .inr (.inl h)
  ·exact .inl h
  ·exact .inr (.inr h)
 ·rintro (h | h | h)
  ·exact .inr (.inl h)
  ·exact .inl h
  ·exact .inr (.inr h)
theorem EnvS.set {l : List c7} {v : List UInt8} {x : c6} (h : EnvS l) (hv : a3V v = true) (hx : i5 x = true) (hn : (l6 ⟨l⟩ v).2 = false) : EnvS (w8 l v x) := by
 refine ⟨fun b hb => ?_, by rw [a2E x (a8f hn)]; exact SS.put t8 h.2 v⟩
 rcases c8m.1 hb with rfl | hb
 ·exact ⟨hv, hx⟩
 ·exact h.1 b hb
theorem b7c {t : c4} (h : m0 t = true) (hv : (t.Var == []) = false) : a3V t.Var = true := by
 rw [m0, hv] at h
 simp only [Bool.not_false, cond_true, Bool.and_eq_true] at h
 exact h.1
theorem EnvS.fit {b c : List c7} {t : c4} {v : c6} (h : EnvS b) (ht : m0 t = true) (hv : i5 v = true) (hf : b7o b t v = some c) : EnvS c := by
 rcases a9I hf with ⟨rfl, _⟩ | ⟨rfl, h1, h2⟩
 ·exact h
 ·exact h.set (b7c ht h1) hv h2
theorem EnvS.fits {b : List c7} {args : List c4} {vs : List c6} (h : EnvS b) (ha : args.all m0 = true) (hv : vs.all i5 = true) : ∀ {n : Nat} {c : List c7}, n ≤ args.length → n ≤ vs.length → a0L b args vs n = some c → EnvS c
 | 0, c, _, _, hf => by
   simp only [a0L, Option.some.injEq] at hf
   subst hf
   exact h
 | n + 1, c, hn, hm, hf => by
   rw [a0L] at hf
   obtain ⟨d, h1, h2⟩ := Option.bind_eq_some_iff.1 hf
   refine (EnvS.fits h ha hv (by omega) (by omega) h1).fit (List.all_eq_true.1 ha _ ?_) (List.all_eq_true.1 hv _ ?_) h2
   ·rw [k9 default (by omega)]; exact List.getElem_mem _
   ·rw [k9 default (by omega)]; exact List.getElem_mem _
theorem fitR_on {e : c8} {args : List c4} {row : c9} (h : (a2z e args row).2 = true) : args.length = row.V.length ∧ a0L e.Binds args row.V args.length = some (a2z e args row).1.Binds := by
 rw [a2z] at h ⊢
 by_cases hl : args.length = row.V.length
 ·rw [decide_eq_true hl, cond_true] at h ⊢
  split at h
  ·rename_i c hc; exact ⟨hl, hc⟩
  ·cases h
 ·rw [decide_eq_false hl] at h; cases h
theorem b1J {c : List c7} {args : List c4} {row : c9} (hl : args.length = row.V.length) (h : ∀ i, i < args.length → Back c (args.getD i default) (row.V.getD i default)) : s8 ⟨c⟩ args = (row, true) := by
 have h1 : args.all (fun t => (i4 ⟨c⟩ t).2) = true := by
  rw [List.all_eq_true]
  intro t ht
  obtain ⟨i, hi, rfl⟩ := List.getElem_of_mem ht
  have := h i hi
  unfold Back at this
  rw [k9 default hi] at this
  rw [this]
 have h2 : args.map (fun t => (i4 ⟨c⟩ t).1) = row.V := by
  refine List.ext_getElem (by rw [List.length_map]; exact hl) fun i hi hj => ?_
  rw [List.length_map] at hi
  have := h i hi
  unfold Back at this
  rw [k9 default hi, k9 default hj] at this
  rw [List.getElem_map, this]
 rw [s8, h1, cond_true, h2]
theorem c3D (a : c6) : m9 a a = false := by
 rw [m9, a1l, decide_eq_false (by omega)]
 cases a.S == [] && a.S == [] <;> rfl
theorem b9b : ∀ a : List c6, a0i a a = 0
 | [] => rfl
 | x :: a => by rw [a0i, c3D]; exact b9b a
theorem c6w {r : c9} (h : a0a r = true) : r.V.length ≤ 6 ∧ r.V.all i5 = true := by
 simp only [a0a, Bool.and_eq_true, decide_eq_true_eq] at h
 exact ⟨by omega, h.2⟩
end Go.Aw
