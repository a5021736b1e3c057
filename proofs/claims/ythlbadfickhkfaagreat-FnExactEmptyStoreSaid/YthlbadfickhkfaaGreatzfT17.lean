/- Setting a name in a sorted list: mathematics. No condition. -/
import Derived.Test.YthlbadfickhkfaaGreatzfT12
namespace Go.Aw
open Go.Proofs
attribute [local irreducible] aft blk lpK retK AW A0l
set_option linter.unusedVariables false
set_option linter.unusedSimpArgs false
set_option maxRecDepth 100000
def v5 (n : List UInt8) (v : d3) (q : List d3 × Bool) (x : d3) : List d3 × Bool := ((bif !q.2 && !sLt x.Name n then q.1 ++ [v] else q.1) ++ (bif x.Name == n then [] else [x]), q.2 || !sLt x.Name n)
def a6K (n : List UInt8) (v : d3) (l : List d3) : List d3 × Bool := l.foldl (v5 n v) ([], false)
def a4h (l : List d3) (n : List UInt8) (v : d3) : List d3 := bif (a6K n v l).2 then (a6K n v l).1 else (a6K n v l).1 ++ [v]
theorem a4c (n : List UInt8) (v : d3) {l : List d3} {i : Nat} (h : i < l.length) : a6K n v (l.take (i + 1)) = v5 n v (a6K n v (l.take i)) (l.getD i default) := by
 rw [a4i default h, a6K, List.foldl_append]; rfl
theorem b7J (n : List UInt8) (v : d3) : ∀ (A q : List d3), (∀ x ∈ A, sLt x.Name n = true) → A.foldl (v5 n v) (q, false) = (q ++ A, false)
 | [], q, _ => by simp
 | x :: A, q, h => by
   have hx := h x (by simp)
   have hne : (x.Name == n) = false := beq_eq_false_iff_ne.2 (a6h.ne hx)
   rw [List.foldl_cons, v5, hx, hne]
   have := b7J n v A (q ++ [x]) fun y hy => h y (by simp [hy])
   simpa using this
theorem a9g (n : List UInt8) (v : d3) : ∀ (B q : List d3), B.foldl (v5 n v) (q, true) = (q ++ B.filter fun x => !(x.Name == n), true)
 | [], q => by simp
 | x :: B, q => by
   rw [List.foldl_cons, v5]
   cases h : (x.Name == n) with
   | true =>
     have := a9g n v B q
     simpa [h] using this
   | false =>
     have := a9g n v B (q ++ [x])
     simpa [h] using this
theorem b7f {α : Type} {q : α → Bool} : ∀ {l : List α} {x : α}, x ∈ l.takeWhile q → q x = true
 | [], x, h => by simp at h
 | a :: l, x, h => by
   rw [List.takeWhile_cons] at h
   split at h
   ·rename_i ha
    rcases List.mem_cons.1 h with rfl | h
    ·exact ha
    ·exact b7f h
   ·simp at h
theorem a8G (l : List d3) (n : List UInt8) (v : d3) : a4h l n v = l.takeWhile (fun x => sLt x.Name n) ++ v :: (l.dropWhile fun x => sLt x.Name n).filter fun x => !(x.Name == n) := by
 have e : a6K n v l = (l.dropWhile fun x => sLt x.Name n).foldl (v5 n v) (l.takeWhile (fun x => sLt x.Name n), false) := by
  have h0 := b7J n v (l.takeWhile fun x => sLt x.Name n) [] fun x hx => b7f (q := fun x : d3 => sLt x.Name n) hx
  rw [List.nil_append] at h0
  rw [← h0, ← List.foldl_append, List.takeWhile_append_dropWhile]; rfl
 rw [a4h, e]
 cases hB : l.dropWhile fun x => sLt x.Name n with
 | nil => simp
 | cons b B =>
   have hb := a0d hB
   rw [List.foldl_cons, v5, hb]
   simp only [Bool.not_false, Bool.and_self, cond_true, Bool.or_true]
   rw [a9g]
   cases hn : (b.Name == n) with
   | true => simp [hn]
   | false => simp [hn]
theorem b7e {l : List d3} (hs : SS sLt (l.map d3.Name)) (n : List UInt8) (r : d8) : (a4h l n ⟨n, r⟩).map d3.Name = b3F sLt (l.map d3.Name) n := by
 have hsplit : l = l.takeWhile (fun x => sLt x.Name n) ++ l.dropWhile (fun x => sLt x.Name n) := List.takeWhile_append_dropWhile.symm
 have hA : ∀ x ∈ l.takeWhile (fun x => sLt x.Name n), sLt x.Name n = true := fun x hx => b7f (q := fun x : d3 => sLt x.Name n) hx
 have hBn : ∀ x ∈ l.dropWhile (fun x => sLt x.Name n), sLt x.Name n = false := by
  cases hB : l.dropWhile fun x => sLt x.Name n with
  | nil => intro x hx; simp at hx
  | cons b B =>
    have hb := a0d hB
    intro x hx
    rcases List.mem_cons.1 hx with rfl | hx
    ·exact hb
    ·have hp : (l.dropWhile fun x => sLt x.Name n).Pairwise fun a b => sLt a.Name b.Name = true := by
      have := List.pairwise_map.1 hs
      rw [hsplit] at this
      exact (List.pairwise_append.1 this).2.1
     rw [hB] at hp
     have h1 := (List.pairwise_cons.1 hp).1 x hx
     cases h2 : sLt x.Name n with
     | false => rfl
     | true =>
       have h3 : sLt b.Name n = true := a6a _ _ _ h1 h2
       rw [h3] at hb; exact hb
 refine SS.uniq a6h ?_ (SS.put a6h hs n) fun x => ?_
 ·rw [a8G]
  show SS sLt _
  rw [SS, List.pairwise_map]
  have hp := List.pairwise_map.1 hs
  rw [hsplit] at hp
  obtain ⟨p1, p2, p3⟩ := List.pairwise_append.1 hp
  have hgt : ∀ x ∈ (l.dropWhile fun x => sLt x.Name n).filter (fun x => !(x.Name == n)), sLt n x.Name = true := fun x hx => by
   obtain ⟨h1, h2⟩ := List.mem_filter.1 hx
   have h3 := hBn x h1
   cases h4 : sLt n x.Name with
   | true => rfl
   | false =>
     have h5 := a3D _ _ h3 h4
     rw [h5] at h2; simp at h2
  refine List.pairwise_append.2 ⟨p1, List.pairwise_cons.2 ⟨hgt, p2.filter _⟩, fun a ha b hb => ?_⟩
  rcases List.mem_cons.1 hb with rfl | hb
  ·exact hA a ha
  ·exact a6a _ _ _ (hA a ha) (hgt b hb)
 ·rw [b5H, a8G]
  simp only [List.map_append, List.map_cons, List.mem_append, List.mem_cons, List.mem_map, List.mem_filter]
  constructor
  ·rintro (⟨y, hy, rfl⟩ | rfl | ⟨y, ⟨hy, _⟩, rfl⟩)
   ·exact .inr ⟨y, by rw [hsplit]; exact List.mem_append.2 (.inl hy), rfl⟩
   ·exact .inl rfl
   ·exact .inr ⟨y, by rw [hsplit]; exact List.mem_append.2 (.inr hy), rfl⟩
  ·rintro (rfl | ⟨y, hy, rfl⟩)
   ·exact .inr (.inl rfl)
   ·rw [hsplit] at hy
    rcases List.mem_append.1 hy with hy | hy
    ·exact .inl ⟨y, hy, rfl⟩
    ·by_cases e : y.Name = n
     ·exact .inr (.inl e)
     ·exact .inr (.inr ⟨y, ⟨hy, by simpa using e⟩, rfl⟩)
theorem c0g {l : List d3} {n : List UInt8} {v x : d3} (h : x ∈ a4h l n v) : x = v ∨ x ∈ l := by
 rw [a8G] at h
 rcases List.mem_append.1 h with h | h
 ·exact .inr (List.takeWhile_sublist _ |>.mem h)
 ·rcases List.mem_cons.1 h with h | h
  ·exact .inl h
  ·exact .inr (List.dropWhile_sublist _ |>.mem (List.mem_filter.1 h).1)
def w6 (l : List c7) : List d3 := l.foldl (fun s d => a4h s d.Name ⟨d.Name, ⟨d.Arity, []⟩⟩) []
theorem a8d : ∀ l : List c7, (w6 l).map d3.Name = a4K sLt [] (l.map c7.Name) := by
 intro l
 have gen : ∀ (l : List c7) (s : List d3), SS sLt (s.map d3.Name) → (l.foldl (fun s d => a4h s d.Name ⟨d.Name, ⟨d.Arity, []⟩⟩) s).map d3.Name = a4K sLt (s.map d3.Name) (l.map c7.Name) := by
  intro l
  induction l with
  | nil => intro s _; rfl
  | cons d l ih =>
    intro s hs
    have e := b7e hs d.Name ⟨d.Arity, []⟩
    have hs2 : SS sLt ((a4h s d.Name ⟨d.Name, ⟨d.Arity, []⟩⟩).map d3.Name) := by rw [e]; exact SS.put a6h hs _
    rw [List.foldl_cons, ih _ hs2, e]; rfl
 exact gen l [] SS.nil
theorem a9U : ∀ l : List c7, ∀ x ∈ w6 l, x.Rel.Rows = [] := by
 intro l
 have gen : ∀ (l : List c7) (s : List d3), (∀ x ∈ s, x.Rel.Rows = []) → ∀ x ∈ l.foldl (fun s d => a4h s d.Name ⟨d.Name, ⟨d.Arity, []⟩⟩) s, x.Rel.Rows = [] := by
  intro l
  induction l with
  | nil => intro s h; exact h
  | cons d l ih =>
    intro s h
    rw [List.foldl_cons]
    refine ih _ fun x hx => ?_
    rcases c0g hx with rfl | hx
    ·rfl
    ·exact h x hx
 exact gen l [] (by simp)
theorem a7d (l : List c7) : (w6 l).length ≤ l.length := by
 have h := congrArg List.length (a8d l)
 have h2 := c0i sLt (l.map c7.Name) []
 simp only [List.length_map, List.length_nil] at h h2
 omega
end Go.Aw
