/- Setting a name in a sorted list: mathematics. No condition. -/
import Derived.Test.YthlbadfickhkfaaGreatzgT12
namespace Go.Aw
open Go.Proofs
attribute [local irreducible] aft blk lpK retK AW A0l
set_option linter.unusedVariables false
set_option linter.unusedSimpArgs false
set_option maxRecDepth 100000
def a0e (n : List UInt8) (v : d4) (q : List d4 × Bool) (x : d4) : List d4 × Bool := ((bif !q.2 && !sLt x.Name n then q.1 ++ [v] else q.1) ++ (bif x.Name == n then [] else [x]), q.2 || !sLt x.Name n)
def a9C (n : List UInt8) (v : d4) (l : List d4) : List d4 × Bool := l.foldl (a0e n v) ([], false)
def a6n (l : List d4) (n : List UInt8) (v : d4) : List d4 := bif (a9C n v l).2 then (a9C n v l).1 else (a9C n v l).1 ++ [v]
theorem a6g (n : List UInt8) (v : d4) {l : List d4} {i : Nat} (h : i < l.length) : a9C n v (l.take (i + 1)) = a0e n v (a9C n v (l.take i)) (l.getD i default) := by
 rw [i8 default h, a9C, List.foldl_append]; rfl
theorem c5l (n : List UInt8) (v : d4) : ∀ (A q : List d4), (∀ x ∈ A, sLt x.Name n = true) → A.foldl (a0e n v) (q, false) = (q ++ A, false)
 | [], q, _ => by simp
 | x :: A, q, h => by
   have hx := h x (by simp)
   have hne : (x.Name == n) = false := beq_eq_false_iff_ne.2 (m8.ne hx)
   rw [List.foldl_cons, a0e, hx, hne]
   have := c5l n v A (q ++ [x]) fun y hy => h y (by simp [hy])
   simpa using this
theorem b2O (n : List UInt8) (v : d4) : ∀ (B q : List d4), B.foldl (a0e n v) (q, true) = (q ++ B.filter fun x => !(x.Name == n), true)
 | [], q => by simp
 | x :: B, q => by
   rw [List.foldl_cons, a0e]
   cases h : (x.Name == n) with
   | true =>
     have := b2O n v B q
     simpa [h] using this
   | false =>
     have := b2O n v B (q ++ [x])
     simpa [h] using this
theorem c4p {α : Type} {q : α → Bool} : ∀ {l : List α} {x : α}, x ∈ l.takeWhile q → q x = true
 | [], x, h => by simp at h
 | a :: l, x, h => by
   rw [List.takeWhile_cons] at h
   split at h
   ·rename_i ha
    rcases List.mem_cons.1 h with rfl | h
    ·exact ha
    ·exact c4p h
   ·simp at h
theorem b2d (l : List d4) (n : List UInt8) (v : d4) : a6n l n v = l.takeWhile (fun x => sLt x.Name n) ++ v :: (l.dropWhile fun x => sLt x.Name n).filter fun x => !(x.Name == n) := by
 have e : a9C n v l = (l.dropWhile fun x => sLt x.Name n).foldl (a0e n v) (l.takeWhile (fun x => sLt x.Name n), false) := by
  have h0 := c5l n v (l.takeWhile fun x => sLt x.Name n) [] fun x hx => c4p (q := fun x : d4 => sLt x.Name n) hx
  rw [List.nil_append] at h0
  rw [← h0, ← List.foldl_append, List.takeWhile_append_dropWhile]; rfl
 rw [a6n, e]
 cases hB : l.dropWhile fun x => sLt x.Name n with
 | nil => simp
 | cons b B =>
   have hb := a0I hB
   rw [List.foldl_cons, a0e, hb]
   simp only [Bool.not_false, Bool.and_self, cond_true, Bool.or_true]
   rw [b2O]
   cases hn : (b.Name == n) with
   | true => simp [hn]
   | false => simp [hn]
theorem c4m {l : List d4} (hs : SS sLt (l.map d4.Name)) (n : List UInt8) (r : d9) : (a6n l n ⟨n, r⟩).map d4.Name = a0J sLt (l.map d4.Name) n := by
 have hsplit : l = l.takeWhile (fun x => sLt x.Name n) ++ l.dropWhile (fun x => sLt x.Name n) := List.takeWhile_append_dropWhile.symm
 have hA : ∀ x ∈ l.takeWhile (fun x => sLt x.Name n), sLt x.Name n = true := fun x hx => c4p (q := fun x : d4 => sLt x.Name n) hx
 have hBn : ∀ x ∈ l.dropWhile (fun x => sLt x.Name n), sLt x.Name n = false := by
  cases hB : l.dropWhile fun x => sLt x.Name n with
  | nil => intro x hx; simp at hx
  | cons b B =>
    have hb := a0I hB
    intro x hx
    rcases List.mem_cons.1 hx with rfl | hx
    ·exact hb
    ·have hp : (l.dropWhile fun x => sLt x.Name n).Pairwise fun a b => sLt a.Name b.Name = true := by
      have := List.pairwise_map.1 hs
      rw [hsplit] at this
      exact (List.pairwise_append.1 this).2.1
     rw [hB] at hp
     have h1 := (List.pairwise_cons.1 hp).1 x hx
     cases h2 : sLt x.Name n with
     | false => rfl
     | true =>
       have h3 : sLt b.Name n = true := a3x _ _ _ h1 h2
       rw [h3] at hb; exact hb
 refine SS.uniq m8 ?_ (SS.put m8 hs n) fun x => ?_
 ·rw [b2d]
  show SS sLt _
  rw [SS, List.pairwise_map]
  have hp := List.pairwise_map.1 hs
  rw [hsplit] at hp
  obtain ⟨p1, p2, p3⟩ := List.pairwise_append.1 hp
  have hgt : ∀ x ∈ (l.dropWhile fun x => sLt x.Name n).filter (fun x => !(x.Name == n)), sLt n x.Name = true := fun x hx => by
   obtain ⟨h1, h2⟩ := List.mem_filter.1 hx
   have h3 := hBn x h1
   cases h4 : sLt n x.Name with
   | true => rfl
   | false =>
     have h5 := a2x _ _ h3 h4
     rw [h5] at h2; simp at h2
  refine List.pairwise_append.2 ⟨p1, List.pairwise_cons.2 ⟨hgt, p2.filter _⟩, fun a ha b hb => ?_⟩
  rcases List.mem_cons.1 hb with rfl | hb
  ·exact hA a ha
  ·exact a3x _ _ _ (hA a ha) (hgt b hb)
 ·rw [c2n, b2d]
  simp only [List.map_append, List.map_cons, List.mem_append, List.mem_cons, List.mem_map, List.mem_filter]
  constructor
  ·rintro (⟨y, hy, rfl⟩ | rfl | ⟨y, ⟨hy, _⟩, rfl⟩)
   ·exact .inr ⟨y, by rw [hsplit]; exact List.mem_append.2 (.inl hy), rfl⟩
   ·exact .inl rfl
   ·exact .inr ⟨y, by rw [hsplit]; exact List.mem_append.2 (.inr hy), rfl⟩
  ·rintro (rfl | ⟨y, hy, rfl⟩)
   ·exact .inr (.inl rfl)
   ·rw [hsplit] at hy
    rcases List.mem_append.1 hy with hy | hy
    ·exact .inl ⟨y, hy, rfl⟩
    ·by_cases e : y.Name = n
     ·exact .inr (.inl e)
     ·exact .inr (.inr ⟨y, ⟨hy, by simpa using e⟩, rfl⟩)
theorem c8G {l : List d4} {n : List UInt8} {v x : d4} (h : x ∈ a6n l n v) : x = v ∨ x ∈ l := by
 rw [b2d] at h
 rcases List.mem_append.1 h with h | h
 ·exact .inr (List.takeWhile_sublist _ |>.mem h)
 ·rcases List.mem_cons.1 h with h | h
  ·exact .inl h
  ·exact .inr (List.dropWhile_sublist _ |>.mem (List.mem_filter.1 h).1)
def o0 (l : List c8) : List d4 := l.foldl (fun s d => a6n s d.Name ⟨d.Name, ⟨d.Arity, []⟩⟩) []
theorem a6f : ∀ l : List c8, (o0 l).map d4.Name = j8 sLt [] (l.map c8.Name) := by
 intro l
 have gen : ∀ (l : List c8) (s : List d4), SS sLt (s.map d4.Name) → (l.foldl (fun s d => a6n s d.Name ⟨d.Name, ⟨d.Arity, []⟩⟩) s).map d4.Name = j8 sLt (s.map d4.Name) (l.map c8.Name) := by
  intro l
  induction l with
  | nil => intro s _; rfl
  | cons d l ih =>
    intro s hs
    have e := c4m hs d.Name ⟨d.Arity, []⟩
    have hs2 : SS sLt ((a6n s d.Name ⟨d.Name, ⟨d.Arity, []⟩⟩).map d4.Name) := by rw [e]; exact SS.put m8 hs _
    rw [List.foldl_cons, ih _ hs2, e]; rfl
 exact gen l [] SS.nil
theorem c1K : ∀ l : List c8, ∀ x ∈ o0 l, x.Rel.Rows = [] := by
 intro l
 have gen : ∀ (l : List c8) (s : List d4), (∀ x ∈ s, x.Rel.Rows = []) → ∀ x ∈ l.foldl (fun s d => a6n s d.Name ⟨d.Name, ⟨d.Arity, []⟩⟩) s, x.Rel.Rows = [] := by
  intro l
  induction l with
  | nil => intro s h; exact h
  | cons d l ih =>
    intro s h
    rw [List.foldl_cons]
    refine ih _ fun x hx => ?_
    rcases c8G hx with rfl | hx
    ·rfl
    ·exact h x hx
 exact gen l [] (by simp)
theorem b0i (l : List c8) : (o0 l).length ≤ l.length := by
 have h := congrArg List.length (a6f l)
 have h2 := a0K sLt (l.map c8.Name) []
 simp only [List.length_map, List.length_nil] at h h2
 omega
end Go.Aw
