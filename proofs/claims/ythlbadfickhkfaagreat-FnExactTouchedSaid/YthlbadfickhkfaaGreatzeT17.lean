/- Setting a name in a sorted list: mathematics. No condition. -/
import Derived.Test.YthlbadfickhkfaaGreatzeT12
namespace Go.Aw
open Go.Proofs
attribute [local irreducible] aft blk lpK retK AW A0l
set_option linter.unusedVariables false
set_option linter.unusedSimpArgs false
set_option maxRecDepth 100000
def z9 (n : List UInt8) (v : d5) (q : List d5 × Bool) (x : d5) : List d5 × Bool := ((bif !q.2 && !sLt x.Name n then q.1 ++ [v] else q.1) ++ (bif x.Name == n then [] else [x]), q.2 || !sLt x.Name n)
def a8v (n : List UInt8) (v : d5) (l : List d5) : List d5 × Bool := l.foldl (z9 n v) ([], false)
def b0K (l : List d5) (n : List UInt8) (v : d5) : List d5 := bif (a8v n v l).2 then (a8v n v l).1 else (a8v n v l).1 ++ [v]
theorem a5u (n : List UInt8) (v : d5) {l : List d5} {i : Nat} (h : i < l.length) : a8v n v (l.take (i + 1)) = z9 n v (a8v n v (l.take i)) (l.getD i default) := by
 rw [i4 default h, a8v, List.foldl_append]; rfl
theorem c2h (n : List UInt8) (v : d5) : ∀ (A q : List d5), (∀ x ∈ A, sLt x.Name n = true) → A.foldl (z9 n v) (q, false) = (q ++ A, false)
 | [], q, _ => by simp
 | x :: A, q, h => by
   have hx := h x (by simp)
   have hne : (x.Name == n) = false := beq_eq_false_iff_ne.2 (j3.ne hx)
   rw [List.foldl_cons, z9, hx, hne]
   have := c2h n v A (q ++ [x]) fun y hy => h y (by simp [hy])
   simpa using this
theorem b1r (n : List UInt8) (v : d5) : ∀ (B q : List d5), B.foldl (z9 n v) (q, true) = (q ++ B.filter fun x => !(x.Name == n), true)
 | [], q => by simp
 | x :: B, q => by
   rw [List.foldl_cons, z9]
   cases h : (x.Name == n) with
   | true =>
     have := b1r n v B q
     simpa [h] using this
   | false =>
     have := b1r n v B (q ++ [x])
     simpa [h] using this
theorem c1t {α : Type} {q : α → Bool} : ∀ {l : List α} {x : α}, x ∈ l.takeWhile q → q x = true
 | [], x, h => by simp at h
 | a :: l, x, h => by
   rw [List.takeWhile_cons] at h
   split at h
   ·rename_i ha
    rcases List.mem_cons.1 h with rfl | h
    ·exact ha
    ·exact c1t h
   ·simp at h
theorem b8h (l : List d5) (n : List UInt8) (v : d5) : b0K l n v = l.takeWhile (fun x => sLt x.Name n) ++ v :: (l.dropWhile fun x => sLt x.Name n).filter fun x => !(x.Name == n) := by
 have e : a8v n v l = (l.dropWhile fun x => sLt x.Name n).foldl (z9 n v) (l.takeWhile (fun x => sLt x.Name n), false) := by
  have h0 := c2h n v (l.takeWhile fun x => sLt x.Name n) [] fun x hx => c1t (q := fun x : d5 => sLt x.Name n) hx
  rw [List.nil_append] at h0
  rw [← h0, ← List.foldl_append, List.takeWhile_append_dropWhile]; rfl
 rw [b0K, e]
 cases hB : l.dropWhile fun x => sLt x.Name n with
 | nil => simp
 | cons b B =>
   have hb := a0A hB
   rw [List.foldl_cons, z9, hb]
   simp only [Bool.not_false, Bool.and_self, cond_true, Bool.or_true]
   rw [b1r]
   cases hn : (b.Name == n) with
   | true => simp [hn]
   | false => simp [hn]
theorem c1q {l : List d5} (hs : SS sLt (l.map d5.Name)) (n : List UInt8) (r : d7) : (b0K l n ⟨n, r⟩).map d5.Name = a0m sLt (l.map d5.Name) n := by
 have hsplit : l = l.takeWhile (fun x => sLt x.Name n) ++ l.dropWhile (fun x => sLt x.Name n) := List.takeWhile_append_dropWhile.symm
 have hA : ∀ x ∈ l.takeWhile (fun x => sLt x.Name n), sLt x.Name n = true := fun x hx => c1t (q := fun x : d5 => sLt x.Name n) hx
 have hBn : ∀ x ∈ l.dropWhile (fun x => sLt x.Name n), sLt x.Name n = false := by
  cases hB : l.dropWhile fun x => sLt x.Name n with
  | nil => intro x hx; simp at hx
  | cons b B =>
    have hb := a0A hB
    intro x hx
    rcases List.mem_cons.1 hx with rfl | hx
    ·exact hb
    ·have hp : (l.dropWhile fun x => sLt x.Name n).Pairwise fun a b => sLt a.Name b.Name = true := by
      have := List.pairwise_map.1 hs
      rw [hsplit] at this
      exact (List.pairwise_append.1 this).2.1
     rw [hB] at hp
     have h1 := (List.pairwise_cons.1 hp).1 x hx
     cases h2 : sLt x.Name n with
     | false => rfl
     | true =>
       have h3 : sLt b.Name n = true := a3c _ _ _ h1 h2
       rw [h3] at hb; exact hb
 refine SS.uniq j3 ?_ (SS.put j3 hs n) fun x => ?_
 ·rw [b8h]
  show SS sLt _
  rw [SS, List.pairwise_map]
  have hp := List.pairwise_map.1 hs
  rw [hsplit] at hp
  obtain ⟨p1, p2, p3⟩ := List.pairwise_append.1 hp
  have hgt : ∀ x ∈ (l.dropWhile fun x => sLt x.Name n).filter (fun x => !(x.Name == n)), sLt n x.Name = true := fun x hx => by
   obtain ⟨h1, h2⟩ := List.mem_filter.1 hx
   have h3 := hBn x h1
   cases h4 : sLt n x.Name with
   | true => rfl
   | false =>
     have h5 := a2k _ _ h3 h4
     rw [h5] at h2; simp at h2
  refine List.pairwise_append.2 ⟨p1, List.pairwise_cons.2 ⟨hgt, p2.filter _⟩, fun a ha b hb => ?_⟩
  rcases List.mem_cons.1 hb with rfl | hb
  ·exact hA a ha
  ·exact a3c _ _ _ (hA a ha) (hgt b hb)
 ·rw [b0G, b8h]
  simp only [List.map_append, List.map_cons, List.mem_append, List.mem_cons, List.mem_map, List.mem_filter]
  constructor
  ·rintro (⟨y, hy, rfl⟩ | rfl | ⟨y, ⟨hy, _⟩, rfl⟩)
   ·exact .inr ⟨y, by rw [hsplit]; exact List.mem_append.2 (.inl hy), rfl⟩
   ·exact .inl rfl
   ·exact .inr ⟨y, by rw [hsplit]; exact List.mem_append.2 (.inr hy), rfl⟩
  ·rintro (rfl | ⟨y, hy, rfl⟩)
   ·exact .inr (.inl rfl)
   ·rw [hsplit] at hy
    rcases List.mem_append.1 hy with hy | hy
    ·exact .inl ⟨y, hy, rfl⟩
    ·by_cases e : y.Name = n
     ·exact .inr (.inl e)
     ·exact .inr (.inr ⟨y, ⟨hy, by simpa using e⟩, rfl⟩)
theorem c5n {l : List d5} {n : List UInt8} {v x : d5} (h : x ∈ b0K l n v) : x = v ∨ x ∈ l := by
 rw [b8h] at h
 rcases List.mem_append.1 h with h | h
 ·exact .inr (List.takeWhile_sublist _ |>.mem h)
 ·rcases List.mem_cons.1 h with h | h
  ·exact .inl h
  ·exact .inr (List.dropWhile_sublist _ |>.mem (List.mem_filter.1 h).1)
def n9 (l : List c7) : List d5 := l.foldl (fun s d => b0K s d.Name ⟨d.Name, ⟨d.Arity, []⟩⟩) []
theorem a5t : ∀ l : List c7, (n9 l).map d5.Name = j1 sLt [] (l.map c7.Name) := by
 intro l
 have gen : ∀ (l : List c7) (s : List d5), SS sLt (s.map d5.Name) → (l.foldl (fun s d => b0K s d.Name ⟨d.Name, ⟨d.Arity, []⟩⟩) s).map d5.Name = j1 sLt (s.map d5.Name) (l.map c7.Name) := by
  intro l
  induction l with
  | nil => intro s _; rfl
  | cons d l ih =>
    intro s hs
    have e := c1q hs d.Name ⟨d.Arity, []⟩
    have hs2 : SS sLt ((b0K s d.Name ⟨d.Name, ⟨d.Arity, []⟩⟩).map d5.Name) := by rw [e]; exact SS.put j3 hs _
    rw [List.foldl_cons, ih _ hs2, e]; rfl
 exact gen l [] SS.nil
theorem b8W : ∀ l : List c7, ∀ x ∈ n9 l, x.Rel.Rows = [] := by
 intro l
 have gen : ∀ (l : List c7) (s : List d5), (∀ x ∈ s, x.Rel.Rows = []) → ∀ x ∈ l.foldl (fun s d => b0K s d.Name ⟨d.Name, ⟨d.Arity, []⟩⟩) s, x.Rel.Rows = [] := by
  intro l
  induction l with
  | nil => intro s h; exact h
  | cons d l ih =>
    intro s h
    rw [List.foldl_cons]
    refine ih _ fun x hx => ?_
    rcases c5n hx with rfl | hx
    ·rfl
    ·exact h x hx
 exact gen l [] (by simp)
theorem b4m (l : List c7) : (n9 l).length ≤ l.length := by
 have h := congrArg List.length (a5t l)
 have h2 := u4 sLt (l.map c7.Name) []
 simp only [List.length_map, List.length_nil] at h h2
 omega
end Go.Aw
