/- What fits is filled back: the mathematics. No condition. -/
import Derived.Test.YthlbadfickhkfaaebT25
namespace Go.Aw
open Go.Proofs
set_option linter.unusedVariables false
set_option linter.unusedSimpArgs false
set_option maxRecDepth 100000
theorem a2y (l : List c6) (v : List UInt8) : m7 ⟨l⟩ v = match l.find? (fun b => b.Var == v) with | some b => (b.Val, true) | none => (default, false) := by
 cases h : l.find? (fun b => b.Var == v) with
 | none =>
   refine a2r fun j hj => ?_
   have := List.find?_eq_none.1 h (l.getD j default) (by rw [s6 default hj]; exact List.getElem_mem hj)
   simpa using this
 | some b =>
   obtain ⟨hp, l1, l2, rfl, hno⟩ := List.find?_eq_some_iff_append.1 h
   have e : (l1 ++ b :: l2).getD l1.length default = b := by simp
   rw [a2s (e := ⟨l1 ++ b :: l2⟩) (i := l1.length) (by simp) (fun j hj => ?_) (by simp only [e]; exact hp)]
   ·simp only [e]
   ·have hm : (l1 ++ b :: l2).getD j default = l1[j] := by
     rw [List.getD_eq_getElem?_getD, List.getElem?_append_left hj, List.getElem?_eq_getElem hj]; rfl
    simp only [hm]
    have := hno l1[j] (List.getElem_mem hj)
    simpa using this
theorem a5L {l : List c6} {v : List UInt8} (h : (m7 ⟨l⟩ v).2 = false) : l.find? (fun b => b.Var == v) = none := by
 rw [a2y] at h
 cases hf : l.find? (fun b => b.Var == v) with
 | none => rfl
 | some b => rw [hf] at h; cases h
theorem off_mem {l : List c6} {v : List UInt8} (h : (m7 ⟨l⟩ v).2 = false) : ¬ v ∈ l.map c6.Var := by
 intro hm
 obtain ⟨b, hb, rfl⟩ := List.mem_map.1 hm
 have := List.find?_eq_none.1 (a5L h) b hb
 simp at this
theorem a6x (l : List c6) (v : List UInt8) : l.takeWhile (fun b => !gtB v b) ++ l.dropWhile (fun b => !gtB v b) = l := List.takeWhile_append_dropWhile
theorem b0X {l : List c6} {v w : List UInt8} {x : c7} (hw : w ≠ v) : m7 ⟨u1 l v x⟩ w = m7 ⟨l⟩ w := by
 rw [a2y, a2y]
 conv => rhs; rw [← a6x l v]
 rw [u1, List.find?_append, List.find?_append, List.find?_cons, show ((v == w) = false) from beq_eq_false_iff_ne.2 (Ne.symm hw)]
theorem a8v {l : List c6} {v : List UInt8} {x : c7} (h : (m7 ⟨l⟩ v).2 = false) : m7 ⟨u1 l v x⟩ v = (x, true) := by
 have h1 := a5L h
 rw [← a6x l v, List.find?_append] at h1
 rw [a2y, u1, List.find?_append]
 cases h2 : (l.takeWhile fun b => !gtB v b).find? (fun b => b.Var == v) with
 | some b => rw [h2] at h1; cases h1
 | none => simp
theorem b2G {a b : c7} (h : a2Y a b = true) : a = b := by
 obtain ⟨n, s⟩ := a
 obtain ⟨m, t⟩ := b
 simp only [a2Y, Bool.and_eq_true, beq_iff_eq] at h
 obtain ⟨rfl, rfl⟩ := h
 rfl
def Back (c : List c6) (t : c8) (x : c7) : Prop := l5 ⟨c⟩ t = (x, true)
theorem Back.set {c : List c6} {t : c8} {x y : c7} {v : List UInt8} (h : Back c t x) (hv : (m7 ⟨c⟩ v).2 = false) : Back (u1 c v y) t x := by
 unfold Back at *
 rw [l5] at h ⊢
 cases ht : t.Var == [] with
 | true => rw [ht] at h; exact h
 | false =>
   rw [ht, cond_false] at h
   have hn : t.Var ≠ v := by intro e; rw [← e, h] at hv; cases hv
   rw [cond_false, b0X hn]; exact h
theorem b1p {c : List c6} {t : c8} (h : (l5 ⟨c⟩ t).2 = false) : (t.Var == []) = false ∧ (m7 ⟨c⟩ t.Var).2 = false := by
 rw [l5] at h
 cases ht : t.Var == [] with
 | true => rw [ht] at h; cases h
 | false => rw [ht] at h; exact ⟨rfl, h⟩
theorem a5N {b c : List c6} {t : c8} {v : c7} (h : a7J b t v = some c) : (c = b ∧ Back b t v) ∨ (c = u1 b t.Var v ∧ (t.Var == []) = false ∧ (m7 ⟨b⟩ t.Var).2 = false) := by
 rw [a7J] at h
 cases hv : (l5 ⟨b⟩ t).2 with
 | true =>
   rw [hv, cond_true] at h
   cases hs : a2Y (l5 ⟨b⟩ t).1 v with
   | true =>
     rw [hs, cond_true, Option.some.injEq] at h
     refine .inl ⟨h.symm, ?_⟩
     unfold Back
     rw [← b2G hs, ← hv]
   | false => rw [hs] at h; cases h
 | false =>
   rw [hv, cond_false, Option.some.injEq] at h
   exact .inr ⟨h.symm, b1p hv⟩
theorem b1a {b c : List c6} {t : c8} {v : c7} (h : a7J b t v = some c) : Back c t v ∧ ∀ s x, Back b s x → Back c s x := by
 rcases a5N h with ⟨rfl, h1⟩ | ⟨rfl, h1, h2⟩
 ·exact ⟨h1, fun _ _ h => h⟩
 ·refine ⟨?_, fun s x h => h.set h2⟩
  unfold Back
  rw [l5, h1, cond_false, a8v h2]
theorem a7r {b : List c6} {args : List c8} {vs : List c7} : ∀ {n : Nat} {c : List c6}, z0 b args vs n = some c → (∀ i, i < n → Back c (args.getD i default) (vs.getD i default)) ∧ ∀ s x, Back b s x → Back c s x
 | 0, c, h => by
   simp only [z0, Option.some.injEq] at h
   subst h
   exact ⟨fun i hi => by omega, fun _ _ h => h⟩
 | n + 1, c, h => by
   rw [z0] at h
   obtain ⟨d, h1, h2⟩ := Option.bind_eq_some_iff.1 h
   obtain ⟨i1, i2⟩ := a7r h1
   obtain ⟨j1, j2⟩ := b1a h2
   refine ⟨fun i hi => ?_, fun s x h => j2 s x (i2 s x h)⟩
   rcases Nat.lt_or_ge i n with h3 | h3
   ·exact j2 _ _ (i1 i h3)
   ·obtain rfl : i = n := by omega
    exact j1
def EnvS (l : List c6) : Prop := (∀ b ∈ l, a0F b.Var = true ∧ l9 b.Val = true) ∧ SS Op.bytesLess (l.map c6.Var)
theorem b1U {n : Nat} {p : Nat → Bool} : a6E n p = false ↔ ∀ i, i < n → p i = false := by
 constructor
 ·intro h i hi
  cases hp : p i with
  | false => rfl
  | true => rw [a3X hi hp] at h; cases h
 ·intro h
  induction n with
  | zero => rfl
  | succ n ih => exact a3W (ih fun i hi => h i (by omega)) (h n (by omega))
theorem a9q {l : List (List UInt8)} (h : ∀ i, 0 < i → i < l.length → Op.bytesLess (l.getD (i - 1) []) (l.getD i []) = true) : SS Op.bytesLess l := by
 refine List.pairwise_iff_getElem.2 fun i j hi hj hij => ?_
 have key : ∀ d, i + d + 1 < l.length → Op.bytesLess (l.getD i []) (l.getD (i + d + 1) []) = true := by
  intro d
  induction d with
  | zero => intro hd; exact h (i + 1) (by omega) hd
  | succ d ih => intro hd; exact a3R _ _ _ (ih (by omega)) (h (i + (d + 1) + 1) (by omega) hd)
 have := key (j - i - 1) (by omega)
 rw [show i + (j - i - 1) + 1 = j by omega, s6 [] hi, s6 [] hj] at this
 exact this
theorem a3K (l : List c6) (i : Nat) : (l.map c6.Var).getD i [] = (l.getD i default).Var := by
 rw [List.getD_eq_getElem?_getD, List.getD_eq_getElem?_getD, List.getElem?_map]
 cases l[i]? with
 | none => rfl
 | some b => rfl
theorem a7q {e : c9} : s7 e = true ↔ EnvS e.Binds ∧ e.Binds.length ≤ 60 := by
 rw [s7, Bool.and_eq_true, Bool.not_eq_true', b1U, decide_eq_true_eq]
 have hl : ((e.Binds.length : Int) ≤ 60) ↔ e.Binds.length ≤ 60 := by omega
 rw [hl]
 refine and_congr_left fun _ => ⟨fun h => ⟨fun b hb => ?_, a9q fun i h0 hi => ?_⟩, fun h i hi => ?_⟩
 ·obtain ⟨i, hi, rfl⟩ := List.getElem_of_mem hb
  have := h i hi
  rw [t3, s6 default hi] at this
  simp only [Bool.or_eq_false_iff, Bool.not_eq_false'] at this
  exact this.1
 ·rw [List.length_map] at hi
  rw [a3K, a3K]
  have := h i hi
  rw [t3, decide_eq_true (p := (0 : Int) < i) (by omega)] at this
  simp only [Bool.or_eq_false_iff, Bool.not_eq_false', Bool.true_and] at this
  exact this.2
 ·have h1 := h.1 (e.Binds.getD i default) (by rw [s6 default hi]; exact List.getElem_mem hi)
  rw [t3, h1.1, h1.2]
  rcases Nat.eq_zero_or_pos i with h0 | h0
  ·subst h0; simp
  ·have h2 := List.pairwise_iff_getElem.1 h.2 (i - 1) i (by rw [List.length_map]; omega) (by rw [List.length_map]; omega) (by omega)
   rw [← s6 [] (by rw [List.length_map]; omega), ← s6 [] (by rw [List.length_map]; omega), a3K, a3K] at h2
   rw [h2]; simp
theorem b1n {l : List c6} {v : List UInt8} (x : c7) (h : ¬ v ∈ l.map c6.Var) : (u1 l v x).map c6.Var = putS Op.bytesLess (l.map c6.Var) v := by
 rw [putS, if_neg h, List.takeWhile_map, List.dropWhile_map, u1, List.map_append, List.map_cons]; rfl
theorem b2B {l : List c6} {v : List UInt8} {x : c7} {b : c6} : b ∈ u1 l v x ↔ b = ⟨v, x⟩ ∨ b ∈ l := by
 conv => rhs; rw [← a6x l v]
 rw [u1, List.mem_append, List.mem_cons, List.mem_append]
 constructor
 ·rintro (h | h | h)
  ·exact .inr (.inl h)
  ·exact .inl h
  ·exact .inr (.inr h)
 ·rintro (h | h | h)
  ·exact .inr (.inl h)
  ·exact .inl h
  ·exact .inr (.inr h)
theorem EnvS.set {l : List c6} {v : List UInt8} {x : c7} (h : EnvS l) (hv : a0F v = true) (hx : l9 x = true) (hn : (m7 ⟨l⟩ v).2 = false) : EnvS (u1 l v x) := by
 refine ⟨fun b hb => ?_, by rw [b1n x (off_mem hn)]; exact SS.put b1l h.2 v⟩
 rcases b2B.1 hb with rfl | hb
 ·exact ⟨hv, hx⟩
 ·exact h.1 b hb
theorem b2E {t : c8} (h : i8 t = true) (hv : (t.Var == []) = false) : a0F t.Var = true := by
 rw [i8, hv] at h
 simp only [Bool.not_false, cond_true, Bool.and_eq_true] at h
 exact h.1
theorem EnvS.fit {b c : List c6} {t : c8} {v : c7} (h : EnvS b) (ht : i8 t = true) (hv : l9 v = true) (hf : a7J b t v = some c) : EnvS c := by
 rcases a5N hf with ⟨rfl, _⟩ | ⟨rfl, h1, h2⟩
 ·exact h
 ·exact h.set (b2E ht h1) hv h2
theorem EnvS.fits {b : List c6} {args : List c8} {vs : List c7} (h : EnvS b) (ha : args.all i8 = true) (hv : vs.all l9 = true) : ∀ {n : Nat} {c : List c6}, n ≤ args.length → n ≤ vs.length → z0 b args vs n = some c → EnvS c
 | 0, c, _, _, hf => by
   simp only [z0, Option.some.injEq] at hf
   subst hf
   exact h
 | n + 1, c, hn, hm, hf => by
   rw [z0] at hf
   obtain ⟨d, h1, h2⟩ := Option.bind_eq_some_iff.1 hf
   refine (EnvS.fits h ha hv (by omega) (by omega) h1).fit (List.all_eq_true.1 ha _ ?_) (List.all_eq_true.1 hv _ ?_) h2
   ·rw [s6 default (by omega)]; exact List.getElem_mem _
   ·rw [s6 default (by omega)]; exact List.getElem_mem _
theorem fitR_on {e : c9} {args : List c8} {row : d3} (h : (p9 e args row).2 = true) : args.length = row.V.length ∧ z0 e.Binds args row.V args.length = some (p9 e args row).1.Binds := by
 rw [p9] at h ⊢
 by_cases hl : args.length = row.V.length
 ·rw [decide_eq_true hl, cond_true] at h ⊢
  split at h
  ·rename_i c hc; exact ⟨hl, hc⟩
  ·cases h
 ·rw [decide_eq_false hl] at h; cases h
theorem b2r {e : c9} {args : List c8} {row : d3} (h : (p9 e args row).2 = false) : (p9 e args row).1 = default := by
 rw [p9] at h ⊢
 by_cases hl : args.length = row.V.length
 ·rw [decide_eq_true hl, cond_true] at h ⊢
  split at h
  ·cases h
  ·rfl
 ·rw [decide_eq_false hl]; rfl
theorem b0Y {c : List c6} {args : List c8} {row : d3} (hl : args.length = row.V.length) (h : ∀ i, i < args.length → Back c (args.getD i default) (row.V.getD i default)) : o6 ⟨c⟩ args = (row, true) := by
 have h1 : args.all (fun t => (l5 ⟨c⟩ t).2) = true := by
  rw [List.all_eq_true]
  intro t ht
  obtain ⟨i, hi, rfl⟩ := List.getElem_of_mem ht
  have := h i hi
  unfold Back at this
  rw [s6 default hi] at this
  rw [this]
 have h2 : args.map (fun t => (l5 ⟨c⟩ t).1) = row.V := by
  refine List.ext_getElem (by rw [List.length_map]; exact hl) fun i hi hj => ?_
  rw [List.length_map] at hi
  have := h i hi
  unfold Back at this
  rw [s6 default hi, s6 default hj] at this
  rw [List.getElem_map, this]
 rw [o6, h1, cond_true, h2]
theorem a9K (a : c7) : a4K a a = false := by
 rw [a4K, a1g, decide_eq_false (by omega)]
 cases a.S == [] && a.S == [] <;> rfl
theorem a7t : ∀ a : List c7, a5o a a = 0
 | [] => rfl
 | x :: a => by rw [a5o, a9K]; exact a7t a
theorem b2s {e : c9} {args : List c8} {row : d3} (h : (a0j e args row).2 = true) : (s7 e = true ∧ t7 row = true) ∧ args.all i8 = true ∧ (p9 e args row).2 = true ∧ ((p9 e args row).1.Binds.length ≤ 60) ∧ a0j e args row = p9 e args row := by
 cases h1 : s7 e && t7 row && args.all i8 with
 | false => rw [a0j, h1] at h; cases h
 | true =>
   simp only [Bool.and_eq_true] at h1
   cases h2 : (p9 e args row).2 && decide (((p9 e args row).1.Binds.length : Int) ≤ 60) with
   | false => rw [a2t h1, h2] at h; cases h
   | true =>
     have h3 : a0j e args row = p9 e args row := by rw [a2t h1, h2, cond_true]
     simp only [Bool.and_eq_true, decide_eq_true_eq] at h2
     exact ⟨h1.1, h1.2, h2.1, by omega, h3⟩
theorem b1b {e : c9} {args : List c8} {row : d3} (h : (a0j e args row).2 = false) : (a0j e args row).1 = default := by
 cases h1 : s7 e && t7 row && args.all i8 with
 | false => rw [a0j, h1]; rfl
 | true =>
   simp only [Bool.and_eq_true] at h1
   rw [a2t h1] at h ⊢
   cases h2 : (p9 e args row).2 && decide (((p9 e args row).1.Binds.length : Int) ≤ 60) with
   | false => rfl
   | true =>
     rw [h2, cond_true] at h
     rw [cond_true]
     exact b2r h
theorem b1k {r : d3} (h : t7 r = true) : r.V.length ≤ 6 ∧ r.V.all l9 = true := by
 simp only [t7, Bool.and_eq_true, decide_eq_true_eq] at h
 exact ⟨by omega, h.2⟩
theorem fit_law {e : c9} {args : List c8} {row : d3} (h : (a0j e args row).2 = true) : a2W (a0j e args row).1 args = (row, true) ∧ a1f row row = 0 ∧ s7 (a0j e args row).1 = true := by
 obtain ⟨⟨h1, h2⟩, h3, h4, h5, h6⟩ := b2s h
 obtain ⟨hl, hf⟩ := fitR_on h4
 obtain ⟨hr1, hr2⟩ := b1k h2
 have hE : s7 (p9 e args row).1 = true := a7q.2 ⟨(a7q.1 h1).1.fits h3 hr2 (Nat.le_refl _) (by omega) hf, h5⟩
 rw [h6]
 refine ⟨?_, by rw [a1f, h2]; exact a7t _, hE⟩
 rw [a2W, hE, h3, decide_eq_true (show (args.length : Int) ≤ 6 by omega)]
 exact b0Y hl (a7r hf).1
end Go.Aw
