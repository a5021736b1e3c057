/- Equalities bind; what holds; the bodies: the mathematics. No condition. -/
import Derived.Test.YthlbadfickhkfaaGreatzhT30
import Derived.Test.YthlbadfickhkfaaGreatzhT8
namespace Go.Aw
open Go.Proofs
set_option linter.unusedVariables false
set_option linter.unusedSimpArgs false
set_option maxRecDepth 100000
def eqS (l : d4) (b : List c7) : List c7 := bif u7 l then (bif (i4 ⟨b⟩ l.A).2 then (bif (i4 ⟨b⟩ l.B).2 then b else w8 b l.B.Var (i4 ⟨b⟩ l.A).1) else (bif (i4 ⟨b⟩ l.B).2 then w8 b l.A.Var (i4 ⟨b⟩ l.B).1 else b)) else b
def eqP (r : d3) (b : List c7) : Nat → List c7
 | 0 => b
 | n + 1 => eqS (r.Body.getD n default) (eqP r b n)
def a6b (r : d3) (b : List c7) : List c7 := eqP r b r.Body.length
def eqI (r : d3) (b : List c7) : Nat → List c7
 | 0 => b
 | k + 1 => a6b r (eqI r b k)
def IsEq (r : d3) (b c : List c7) : Prop := ∃ k, eqI r b k = c ∧ a6b r c = c
theorem b5i {r : d3} {b c : List c7} {k : Nat} (h : eqI r b k = c) (hp : a6b r c = c) : ∀ m, eqI r b (k + m) = c
 | 0 => h
 | m + 1 => by rw [show k + (m + 1) = (k + m) + 1 from rfl, eqI, b5i h hp m, hp]
theorem IsEq.uniq {r : d3} {b c d : List c7} (h1 : IsEq r b c) (h2 : IsEq r b d) : c = d := by
 obtain ⟨k, h1, p1⟩ := h1
 obtain ⟨m, h2, p2⟩ := h2
 have a := b5i h1 p1 m
 have b := b5i h2 p2 k
 rw [Nat.add_comm] at b
 exact a.symm.trans b
open Classical in
noncomputable def eqR (r : d3) (b : List c7) : List c7 := if h : ∃ c, IsEq r b c then Classical.choose h else b
theorem b9E {r : d3} {b c : List c7} (h : IsEq r b c) : eqR r b = c := by
 have hx : ∃ c, IsEq r b c := ⟨c, h⟩
 rw [eqR, dif_pos hx]
 exact (Classical.choose_spec hx).uniq h
inductive EqStep (l : d4) (b : List c7) : List c7 → Prop
 | same : EqStep l b b
 | right : u7 l = true → (i4 ⟨b⟩ l.A).2 = true → (i4 ⟨b⟩ l.B).2 = false → EqStep l b (w8 b l.B.Var (i4 ⟨b⟩ l.A).1)
 | left : u7 l = true → (i4 ⟨b⟩ l.B).2 = true → (i4 ⟨b⟩ l.A).2 = false → EqStep l b (w8 b l.A.Var (i4 ⟨b⟩ l.B).1)
theorem a5p (l : d4) (b : List c7) : EqStep l b (eqS l b) := by
 rw [eqS]
 cases h0 : u7 l with
 | false => exact .same
 | true =>
   cases h1 : (i4 ⟨b⟩ l.A).2 with
   | true =>
     cases h2 : (i4 ⟨b⟩ l.B).2 with
     | true => exact .same
     | false => exact .right h0 h1 h2
   | false =>
     cases h2 : (i4 ⟨b⟩ l.B).2 with
     | true => exact .left h0 h2 h1
     | false => exact .same
theorem b8S {l : d4} {b : List c7} (h0 : u7 l = true) (h1 : (i4 ⟨b⟩ l.A).2 = true) (h2 : (i4 ⟨b⟩ l.B).2 = false) : eqS l b = w8 b l.B.Var (i4 ⟨b⟩ l.A).1 := by rw [eqS, h0, h1, h2]; rfl
theorem c1e {l : d4} {b : List c7} (h0 : u7 l = true) (h1 : (i4 ⟨b⟩ l.B).2 = true) (h2 : (i4 ⟨b⟩ l.A).2 = false) : eqS l b = w8 b l.A.Var (i4 ⟨b⟩ l.B).1 := by rw [eqS, h0, h1, h2]; rfl
theorem c1f {l : d4} {b : List c7} (h0 : u7 l = false) : eqS l b = b := by rw [eqS, h0]; rfl
theorem EqStep.len {l : d4} {b c : List c7} (h : EqStep l b c) : c = b ∨ c.length = b.length + 1 := by
 cases h with
 | same => exact .inl rfl
 | right _ _ _ => exact .inr (a1H _ _ _)
 | left _ _ _ => exact .inr (a1H _ _ _)
theorem c4t (r : d3) (b : List c7) : ∀ n, eqP r b n = b ∨ b.length < (eqP r b n).length
 | 0 => .inl rfl
 | n + 1 => by
   have h1 := c4t r b n
   have h2 := (a5p (r.Body.getD n default) (eqP r b n)).len
   rw [eqP]
   rcases h1 with h1 | h1
   ·rw [h1] at h2 ⊢
    rcases h2 with h2 | h2
    ·exact .inl h2
    ·exact .inr (by omega)
   ·rcases h2 with h2 | h2
    ·rw [h2]; exact .inr h1
    ·exact .inr (by omega)
theorem b8Z {r : d3} {b : List c7} (h : (a6b r b).length ≤ b.length) : a6b r b = b := by
 rcases c4t r b r.Body.length with h1 | h1
 ·exact h1
 ·rw [a6b] at h; omega
theorem c4B {r : d3} {l : d4} (hl : l ∈ r.Body) {t : c4} (ht : t = l.A ∨ t = l.B) (hv : (t.Var == []) = false) : t.Var ∈ a6J r := by
 refine List.mem_flatMap.2 ⟨l, hl, List.mem_append.2 (.inr (u9.2 ⟨t, ?_, by rw [t6, hv]; rfl, rfl⟩))⟩
 rcases ht with rfl | rfl
 ·exact List.mem_cons_self
 ·exact List.mem_cons_of_mem _ (List.mem_singleton.2 rfl)
theorem c1y {r : d3} {b : List c7} {v : List UInt8} (x : c6) (hv : v ∈ a6J r) (hn : (l6 ⟨b⟩ v).2 = false) : miss r ((w8 b v x).map c7.Var) < miss r (b.map c7.Var) := by
 have hm := a8f hn
 refine b1K (fun y hy => ?_) ⟨v, hv, ?_, ?_⟩
 ·simp only [Bool.not_eq_true', List.contains_eq_mem, decide_eq_false_iff_not] at hy ⊢
  intro h
  rw [a2E x hm] at hy
  exact hy (b6R.2 (.inr h))
 ·simp only [Bool.not_eq_true', List.contains_eq_mem, decide_eq_false_iff_not]; exact hm
 ·simp only [Bool.not_eq_false', List.contains_eq_mem, decide_eq_true_eq]
  rw [a2E x hm]
  exact b6R.2 (.inl rfl)
theorem EqStep.miss {r : d3} {l : d4} {b c : List c7} (hl : l ∈ r.Body) (h : EqStep l b c) : c = b ∨ (c.length = b.length + 1 ∧ miss r (c.map c7.Var) < miss r (b.map c7.Var)) := by
 cases h with
 | same => exact .inl rfl
 | right _ _ h =>
   have h2 := w9 h
   exact .inr ⟨a1H _ _ _, c1y _ (c4B hl (.inr rfl) h2.1) h2.2⟩
 | left _ _ h =>
   have h2 := w9 h
   exact .inr ⟨a1H _ _ _, c1y _ (c4B hl (.inl rfl) h2.1) h2.2⟩
theorem a3o {r : d3} {b : List c7} : ∀ {n : Nat}, n ≤ r.Body.length → (eqP r b n).length + miss r ((eqP r b n).map c7.Var) ≤ b.length + miss r (b.map c7.Var) ∧ (eqP r b n = b ∨ miss r ((eqP r b n).map c7.Var) < miss r (b.map c7.Var))
 | 0, _ => ⟨Nat.le_refl _, .inl rfl⟩
 | n + 1, hn => by
   obtain ⟨i1, i2⟩ := a3o (r := r) (b := b) (n := n) (by omega)
   have hm : r.Body.getD n default ∈ r.Body := by rw [k9 default (by omega)]; exact List.getElem_mem _
   rw [eqP]
   rcases (a5p (r.Body.getD n default) (eqP r b n)).miss hm with h | ⟨h1, h2⟩
   ·rw [h]; exact ⟨i1, i2⟩
   ·refine ⟨by omega, .inr ?_⟩
    rcases i2 with i2 | i2
    ·rw [i2] at h2 ⊢; exact h2
    ·omega
theorem EqStep.ext {l : d4} {b c : List c7} (h : EqStep l b c) : ExtB b c := by
 cases h with
 | same => exact ExtB.refl _
 | right _ _ h => exact fun s x hs => hs.set (w9 h).2
 | left _ _ h => exact fun s x hs => hs.set (w9 h).2
theorem c4s (r : d3) (b : List c7) : ∀ n, ExtB b (eqP r b n)
 | 0 => ExtB.refl _
 | n + 1 => (c4s r b n).trans (a5p _ _).ext
theorem c4r (r : d3) (b : List c7) : ∀ k, ExtB b (eqI r b k)
 | 0 => ExtB.refl _
 | k + 1 => (c4r r b k).trans (c4s r _ _)
theorem b7e {b : List c7} {t : c4} (h : EnvS b) (ht : m0 t = true) (hv : (i4 ⟨b⟩ t).2 = true) : i5 (i4 ⟨b⟩ t).1 = true := by
 rw [i4] at hv ⊢
 cases hn : t.Var == [] with
 | true =>
   rw [m0, hn] at ht
   simp only [Bool.not_true, cond_false, Bool.and_eq_true] at ht
   exact ht.1
 | false =>
   rw [hn, cond_false] at hv
   rw [cond_false]
   rw [a1h] at hv ⊢
   cases hf : b.find? (fun x => x.Var == t.Var) with
   | none => rw [hf] at hv; cases hv
   | some y => exact (h.1 y (List.mem_of_find?_eq_some hf)).2
theorem EqStep.ok {r : d3} {l : d4} {b c : List c7} (hr : i6 r = true) (hl : l ∈ r.Body) (h : EqStep l b c) (hb : EnvS b) : EnvS c := by
 have hlit : u7 l = true → m0 l.A = true ∧ m0 l.B = true := by
  intro he
  simp only [i6, Bool.and_eq_true, List.all_eq_true] at hr
  have := hr.2 l hl
  simp only [u7, Bool.and_eq_true] at he
  rw [a0n, he.1, cond_true] at this
  simp only [Bool.and_eq_true] at this
  exact ⟨this.1.2, this.2⟩
 cases h with
 | same => exact hb
 | right h0 h1 h2 => exact hb.set (b7c (hlit h0).2 (w9 h2).1) (b7e hb (hlit h0).1 h1) (w9 h2).2
 | left h0 h1 h2 => exact hb.set (b7c (hlit h0).1 (w9 h2).1) (b7e hb (hlit h0).2 h1) (w9 h2).2
theorem c7P {r : d3} {b : List c7} (hr : i6 r = true) (hb : EnvS b) : ∀ {n : Nat}, n ≤ r.Body.length → EnvS (eqP r b n)
 | 0, _ => hb
 | n + 1, hn => (a5p _ _).ok hr (by rw [k9 default (by omega)]; exact List.getElem_mem _) (c7P hr hb (by omega))
theorem c7O {r : d3} {b : List c7} (hr : i6 r = true) (hb : EnvS b) : ∀ k, EnvS (eqI r b k)
 | 0 => hb
 | k + 1 => c7P hr (c7O hr hb k) (Nat.le_refl _)
theorem b5h {r : d3} {b : List c7} : ∀ k, (eqI r b k).length + miss r ((eqI r b k).map c7.Var) ≤ b.length + miss r (b.map c7.Var)
 | 0 => Nat.le_refl _
 | k + 1 => Nat.le_trans (a3o (Nat.le_refl _)).1 (b5h k)
theorem c4z (r : d3) : ∀ (m : Nat) (b : List c7), miss r (b.map c7.Var) ≤ m → ∃ c, IsEq r b c
 | 0, b, h => ⟨b, 0, rfl, by
   rcases (a3o (r := r) (b := b) (Nat.le_refl _)).2 with h1 | h1
   ·exact h1
   ·omega⟩
 | m + 1, b, h => by
   rcases (a3o (r := r) (b := b) (Nat.le_refl _)).2 with h1 | h1
   ·exact ⟨b, 0, rfl, h1⟩
   ·obtain ⟨c, k, h2, h3⟩ := c4z r m (a6b r b) (by rw [a6b]; omega)
    refine ⟨c, k + 1, ?_, h3⟩
    have key : ∀ k, eqI r (a6b r b) k = eqI r b (k + 1) := by
     intro k
     induction k with
     | zero => rfl
     | succ k ih => rw [eqI, ih]; rfl
    rw [← key]; exact h2
theorem b9D (r : d3) (b : List c7) : IsEq r b (eqR r b) := by
 obtain ⟨c, h⟩ := c4z r _ b (Nat.le_refl _)
 rw [b9E h]; exact h
theorem b9C (r : d3) (b : List c7) : ExtB b (eqR r b) := by
 obtain ⟨k, h, _⟩ := b9D r b
 rw [← h]; exact c4r r b k
theorem c7Q {r : d3} {b : List c7} (hr : i6 r = true) (hb : EnvS b) : EnvS (eqR r b) := by
 obtain ⟨k, h, _⟩ := b9D r b
 rw [← h]; exact c7O hr hb k
theorem eqR_len (r : d3) (b : List c7) : (eqR r b).length ≤ b.length + (a6J r).length := by
 obtain ⟨k, h, _⟩ := b9D r b
 have := b5h (r := r) (b := b) k
 have := b4D r (b.map c7.Var)
 rw [h] at *
 omega
def domE (l : d4) (vs : List (List UInt8)) : List (List UInt8) := bif u7 l then (bif o8 vs l.A then (bif o8 vs l.B then vs else w6 Op.bytesLess vs l.B.Var) else (bif o8 vs l.B then w6 Op.bytesLess vs l.A.Var else vs)) else vs
theorem b2U (b : List c7) (t : c4) : (i4 ⟨b⟩ t).2 = o8 (b.map c7.Var) t := by
 rw [i4, o8]
 cases t.Var == [] with
 | true => rfl
 | false =>
   rw [cond_false, Bool.false_or]
   rw [Bool.eq_iff_iff, c8c, List.contains_iff_mem]
theorem c4u (l : d4) (b : List c7) : (eqS l b).map c7.Var = domE l (b.map c7.Var) := by
 rw [eqS, domE]
 cases u7 l with
 | false => rfl
 | true =>
   rw [cond_true, cond_true, ← b2U, ← b2U]
   cases h1 : (i4 ⟨b⟩ l.A).2 with
   | true =>
     cases h2 : (i4 ⟨b⟩ l.B).2 with
     | true => rfl
     | false => exact a2E _ (a8f (w9 h2).2)
   | false =>
     cases h2 : (i4 ⟨b⟩ l.B).2 with
     | true => exact a2E _ (a8f (w9 h1).2)
     | false => rfl
theorem b9B {r : d3} {b c : List c7} (h : b.map c7.Var = c.map c7.Var) : ∀ n, (eqP r b n).map c7.Var = (eqP r c n).map c7.Var
 | 0 => h
 | n + 1 => by rw [eqP, eqP, c4u, c4u, b9B h n]
theorem c4q {r : d3} {b c : List c7} (h : b.map c7.Var = c.map c7.Var) : ∀ n, (eqI r b n).map c7.Var = (eqI r c n).map c7.Var
 | 0 => h
 | n + 1 => b9B (c4q h n) _
theorem c8e {r : d3} {b c : List c7} (h : b.map c7.Var = c.map c7.Var) (hc : a6b r c = c) : a6b r b = b := by
 refine b8Z ?_
 have h1 := congrArg List.length (b9B (r := r) h r.Body.length)
 have h2 := congrArg List.length h
 simp only [List.length_map] at h1 h2
 rw [a6b] at hc ⊢
 rw [hc] at h1
 omega
theorem eqR_dom {r : d3} {b c : List c7} (h : b.map c7.Var = c.map c7.Var) : (eqR r b).map c7.Var = (eqR r c).map c7.Var := by
 obtain ⟨k, h1, p1⟩ := b9D r b
 have h2 := c4q (r := r) h k
 rw [h1] at h2
 have p2 : a6b r (eqI r c k) = eqI r c k := c8e h2.symm p1
 rw [b9E (c := eqI r c k) ⟨k, rfl, p2⟩, h2]
def b2B (s : d7) (e : c8) (l : d4) : Bool := bif l.Kind == 2 then !a0t (s7 s l.Atom.Name).1.Rows (s8 e l.Atom.Args).1 else bif l.Kind == 3 then o5 l.Op (i4 e l.A).1 (i4 e l.B).1 else true
def b6P (s : d7) (e : c8) (l : d4) : Bool := bif l.Kind == 3 then o5 l.Op (i4 e l.A).1 (i4 e l.B).1 else a0t (s7 s l.Atom.Name).1.Rows (s8 e l.Atom.Args).1 == (l.Kind == 1)
def a3p (r : d3) (s : d7) (e : c8) : Bool := r.Body.all (b2B s e)
def a5Z (r : d3) (s : d7) (e : c8) : Bool := r.Body.all (b6P s e)
def Rooted (s : d7) (e : c8) (l : d4) : Prop := (l.Kind == 1) = true → ∃ row ∈ (s7 s l.Atom.Name).1.Rows, l.Atom.Args.length = row.V.length ∧ ∀ i, i < l.Atom.Args.length → Back e.Binds (l.Atom.Args.getD i default) (row.V.getD i default)
theorem Rooted.ext {s : d7} {e c : c8} {l : d4} (h : Rooted s e l) (he : ExtB e.Binds c.Binds) : Rooted s c l := fun hk => by
 obtain ⟨row, h1, h2, h3⟩ := h hk
 exact ⟨row, h1, h2, fun i hi => he _ _ (h3 i hi)⟩
theorem Rooted.has {s : d7} {e : c8} {l : d4} (h : Rooted s e l) (hk : (l.Kind == 1) = true) : a0t (s7 s l.Atom.Name).1.Rows (s8 e l.Atom.Args).1 = true := by
 obtain ⟨row, h1, h2, h3⟩ := h hk
 rw [show s8 e l.Atom.Args = (row, true) from b1J h2 h3, a0t, List.any_eq_true]
 exact ⟨row, h1, by simp⟩
theorem c8a {r : d3} (hr : i6 r = true) {l : d4} (hl : l ∈ r.Body) : l.Kind = 1 ∨ l.Kind = 2 ∨ l.Kind = 3 := by
 simp only [i6, Bool.and_eq_true, List.all_eq_true] at hr
 have := hr.2 l hl
 rw [a0n] at this
 cases h : l.Kind == 3 with
 | true => exact .inr (.inr (by simpa using h))
 | false =>
   rw [h] at this
   simp only [cond_false, Bool.and_eq_true, Bool.or_eq_true, beq_iff_eq] at this
   omega
theorem c7U {r : d3} {s : d7} {e : c8} (hr : i6 r = true) (h : ∀ l ∈ r.Body, Rooted s e l) : a5Z r s e = a3p r s e := by
 rw [a5Z, a3p, Bool.eq_iff_iff, List.all_eq_true, List.all_eq_true]
 refine forall_congr' fun l => forall_congr' fun hl => ?_
 rw [b6P, b2B]
 rcases c8a hr hl with hk | hk | hk
 ·have := (h l hl).has (by rw [hk]; rfl)
  rw [this, hk]; simp
 ·rw [hk]
  cases a0t (s7 s l.Atom.Name).1.Rows (s8 e l.Atom.Args).1 <;> simp
 ·rw [hk]
  exact Iff.rfl
theorem b6Y {r : d3} (hr : i6 r = true) {l : d4} (hl : l ∈ r.Body) (hk : (l.Kind == 3) = false) : l.Atom.Args.all m0 = true ∧ l.Atom.Args.length ≤ 6 := by
 simp only [i6, Bool.and_eq_true, List.all_eq_true] at hr
 have := hr.2 l hl
 rw [a0n, hk, cond_false] at this
 simp only [a2p, Bool.and_eq_true, decide_eq_true_eq] at this
 obtain ⟨⟨⟨⟨_, ⟨⟨_, h6⟩, hall⟩⟩, _⟩, _⟩, _⟩ := this
 exact ⟨hall, by omega⟩
theorem a8h {v : d7} (h : l9 v = true) (n : List UInt8) : w7 (s7 v n).1 = true := by
 unfold s7
 split
 ·rename_i h0
  have hl := idxL_lt (p := fun x : d6 => x.Name == n) (l := v.Rels)
  have hm : (a3q (fun x : d6 => x.Name == n) v.Rels).toNat < v.Rels.length := by omega
  have := c1L h _ (List.getElem_mem hm)
  simp only [k9 default hm]
  exact this
 ·rfl
theorem c6v {r : d8} (h : w7 r = true) : r.Rows.Nodup := by
 refine List.pairwise_iff_getElem.2 fun i j hi hj hij e => ?_
 have := c3z h hij hj
 rw [k9 default hi, k9 default hj, e, b9b] at this
 omega
structure Jn (r : d3) (s : d7) (n : Nat) (l : List c8) : Prop where
 alk : ∃ vs, Alk vs l
 root : ∀ e ∈ l, ∀ i, i < n → Rooted s e (r.Body.getD i default)
 len : ∀ e ∈ l, e.Binds.length ≤ 6 * n
theorem Jn.all {r : d3} {s : d7} (hr : i6 r = true) (hs : l9 s = true) : ∀ {n : Nat} {l : List c8}, n ≤ r.Body.length → y9 r s n = some l → Jn r s n l
 | 0, l, _, h => by
   simp only [y9, Option.some.injEq] at h
   subst h
   refine ⟨⟨[], by simp, fun e he => ?_, fun e he => ?_⟩, fun e _ i hi => by omega, fun e he => ?_⟩
   ·rw [List.mem_singleton.1 he]; exact ⟨by simp, SS.nil⟩
   ·rw [List.mem_singleton.1 he]; rfl
   ·rw [List.mem_singleton.1 he]; simp
 | n + 1, l, hn, h => by
   have hm : r.Body.getD n default ∈ r.Body := by rw [k9 default (by omega)]; exact List.getElem_mem _
   rw [y9] at h
   obtain ⟨d, h1, h2⟩ := Option.bind_eq_some_iff.1 h
   have ih := Jn.all hr hs (by omega) h1
   cases hk : (r.Body.getD n default).Kind == 1 with
   | false =>
     rw [hk, cond_false, Option.some.injEq] at h2
     subst h2
     refine ⟨ih.alk, fun e he i hi => ?_, fun e he => by have := ih.len e he; omega⟩
     rcases Nat.lt_or_ge i n with h3 | h3
     ·exact ih.root e he i h3
     ·obtain rfl : i = n := by omega
      intro h4; rw [hk] at h4; cases h4
   | true =>
     rw [hk, cond_true] at h2
     have h3 : ((r.Body.getD n default).Kind == 3) = false := by rw [beq_iff_eq] at hk; rw [hk]; rfl
     obtain ⟨ha, ha6⟩ := b6Y hr hm h3
     have hR := a8h hs (r.Body.getD n default).Atom.Name
     by_cases hl : (n0 (r.Body.getD n default).Atom.Args (s7 s (r.Body.getD n default).Atom.Name).1.Rows d).length ≤ 2000
     ·rw [decide_eq_true hl, cond_true, Option.some.injEq] at h2
      subst h2
      obtain ⟨vs, halk⟩ := ih.alk
      refine ⟨⟨_, halk.stage ha (c6v hR) fun x hx => ?_⟩, fun e he i hi => ?_, fun e he => ?_⟩
      ·obtain ⟨i, hi, rfl⟩ := List.getElem_of_mem hx
       have := a2A hR hi
       rw [k9 default hi] at this
       exact List.all_eq_true.2 this
      ·obtain ⟨e0, he0, hc⟩ := List.mem_flatMap.1 he
       obtain ⟨row, hrow, hf⟩ := List.mem_filterMap.1 hc
       have ff := a1D hf
       rcases Nat.lt_or_ge i n with h4 | h4
       ·exact (ih.root e0 he0 i h4).ext ff.ext
       ·obtain rfl : i = n := by omega
        exact fun _ => ⟨row, hrow, ff.len, ff.back⟩
      ·obtain ⟨e0, he0, hc⟩ := List.mem_flatMap.1 he
       obtain ⟨row, hrow, hf⟩ := List.mem_filterMap.1 hc
       have ff := a1D hf
       have := ff.lenB
       have := ih.len e0 he0
       omega
     ·rw [decide_eq_false hl] at h2; cases h2
noncomputable def eqE (r : d3) (e : c8) : c8 := ⟨eqR r e.Binds⟩
noncomputable def a5s (r : d3) (s : d7) (l : List c8) : List c8 := (l.map (eqE r)).filter (a3p r s)
noncomputable def l7 (r : d3) (s : d7) : List c8 × Bool := bif (y4 r s).2 then (k6 o9 [] (a5s r s (y4 r s).1), true) else ([], false)
theorem c1D {r : d3} {s : d7} {vs : List (List UInt8)} {l : List c8} (hr : i6 r = true) (h : Alk vs l) : ∃ ws, Alk ws (a5s r s l) := by
 have h0 : ∃ ws, Alk ws (l.map (eqE r)) := by
  have hd : ∀ e ∈ l, ∀ e' ∈ l, (eqR r e.Binds).map c7.Var = (eqR r e'.Binds).map c7.Var := fun e he e' he' => eqR_dom ((h.dom e he).trans (h.dom e' he').symm)
  refine ⟨((l.map (eqE r)).getD 0 default).Binds.map c7.Var, ?_, fun c hc => ?_, fun c hc => ?_⟩
  ·unfold List.Nodup
   rw [List.pairwise_map]
   refine List.Pairwise.imp_of_mem ?_ h.nd
   intro e e' he he' hne heq
   have h1 : eqR r e.Binds = eqR r e'.Binds := congrArg c8.Binds heq
   have h2 := b9C r e'.Binds
   rw [← h1] at h2
   have := c4v (h.ok e he) (h.ok e' he') ((h.dom e he).trans (h.dom e' he').symm) (b9C r e.Binds) h2
   exact hne (by cases e; cases e'; simp_all)
  ·obtain ⟨e, he, rfl⟩ := List.mem_map.1 hc
   exact c7Q hr (h.ok e he)
  ·obtain ⟨e, he, rfl⟩ := List.mem_map.1 hc
   cases l with
   | nil => cases he
   | cons a l => exact hd e he a List.mem_cons_self
 obtain ⟨ws, h1⟩ := h0
 exact ⟨ws, h1.nd.filter _, fun e he => h1.ok e (List.mem_filter.1 he).1, fun e he => h1.dom e (List.mem_filter.1 he).1⟩
theorem b0W (r : d3) (s : d7) (l : List c8) : (a5s r s l).length ≤ l.length := by
 have := List.length_filter_le (a3p r s) (l.map (eqE r))
 rw [List.length_map] at this
 exact this
end Go.Aw
