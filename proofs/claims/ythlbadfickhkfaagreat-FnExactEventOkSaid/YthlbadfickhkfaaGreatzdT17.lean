/- Setting a name in a sorted list: mathematics. No condition. -/
import Derived.Test.YthlbadfickhkfaaGreatzdT12
namespace Go.Aw
open Go.Proofs
attribute [local irreducible] aft blk lpK retK AW A0l
set_option linter.unusedVariables false
set_option linter.unusedSimpArgs false
set_option maxRecDepth 100000
def u2 (n : List UInt8) (v : GNamed) (q : List GNamed × Bool) (x : GNamed) : List GNamed × Bool := ((bif !q.2 && !sLt x.Name n then q.1 ++ [v] else q.1) ++ (bif x.Name == n then [] else [x]), q.2 || !sLt x.Name n)
def a7w (n : List UInt8) (v : GNamed) (l : List GNamed) : List GNamed × Bool := l.foldl (u2 n v) ([], false)
def a9G (l : List GNamed) (n : List UInt8) (v : GNamed) : List GNamed := bif (a7w n v l).2 then (a7w n v l).1 else (a7w n v l).1 ++ [v]
theorem a4D (n : List UInt8) (v : GNamed) {l : List GNamed} {i : Nat} (h : i < l.length) : a7w n v (l.take (i + 1)) = u2 n v (a7w n v (l.take i)) (l.getD i default) := by
 rw [c9 default h, a7w, List.foldl_append]; rfl
theorem c0W (n : List UInt8) (v : GNamed) : ∀ (A q : List GNamed), (∀ x ∈ A, sLt x.Name n = true) → A.foldl (u2 n v) (q, false) = (q ++ A, false)
 | [], q, _ => by simp
 | x :: A, q, h => by
  have hx := h x (by simp)
  have hne : (x.Name == n) = false := beq_eq_false_iff_ne.2 (i9.ne hx)
  rw [List.foldl_cons, u2, hx, hne]
  have := c0W n v A (q ++ [x]) fun y hy => h y (by simp [hy])
  simpa using this
theorem b0l (n : List UInt8) (v : GNamed) : ∀ (B q : List GNamed), B.foldl (u2 n v) (q, true) = (q ++ B.filter fun x => !(x.Name == n), true)
 | [], q => by simp
 | x :: B, q => by
  rw [List.foldl_cons, u2]
  cases h : (x.Name == n) with
  | true =>
   have := b0l n v B q
   simpa [h] using this
  | false =>
   have := b0l n v B (q ++ [x])
   simpa [h] using this
theorem c0i {α : Type} {q : α → Bool} : ∀ {l : List α} {x : α}, x ∈ l.takeWhile q → q x = true
 | [], x, h => by simp at h
 | a :: l, x, h => by
  rw [List.takeWhile_cons] at h
  split at h
  ·rename_i ha
   rcases List.mem_cons.1 h with rfl | h
   ·exact ha
   ·exact c0i h
  ·simp at h
theorem b7c (l : List GNamed) (n : List UInt8) (v : GNamed) : a9G l n v = l.takeWhile (fun x => sLt x.Name n) ++ v :: (l.dropWhile fun x => sLt x.Name n).filter fun x => !(x.Name == n) := by
 have e : a7w n v l = (l.dropWhile fun x => sLt x.Name n).foldl (u2 n v) (l.takeWhile (fun x => sLt x.Name n), false) := by
  have h0 := c0W n v (l.takeWhile fun x => sLt x.Name n) [] fun x hx => c0i (q := fun x : GNamed => sLt x.Name n) hx
  rw [List.nil_append] at h0
  rw [← h0, ← List.foldl_append, List.takeWhile_append_dropWhile]; rfl
 rw [a9G, e]
 cases hB : l.dropWhile fun x => sLt x.Name n with
 | nil => simp
 | cons b B =>
  have hb := y9 hB
  rw [List.foldl_cons, u2, hb]
  simp only [Bool.not_false, Bool.and_self, cond_true, Bool.or_true]
  rw [b0l]
  cases hn : (b.Name == n) with
  | true => simp [hn]
  | false => simp [hn]
theorem c0f {l : List GNamed} (hs : SS sLt (l.map GNamed.Name)) (n : List UInt8) (r : GRel) : (a9G l n ⟨n, r⟩).map GNamed.Name = z5 sLt (l.map GNamed.Name) n := by
 have hsplit : l = l.takeWhile (fun x => sLt x.Name n) ++ l.dropWhile (fun x => sLt x.Name n) := List.takeWhile_append_dropWhile.symm
 have hA : ∀ x ∈ l.takeWhile (fun x => sLt x.Name n), sLt x.Name n = true := fun x hx => c0i (q := fun x : GNamed => sLt x.Name n) hx
 have hBn : ∀ x ∈ l.dropWhile (fun x => sLt x.Name n), sLt x.Name n = false := by
  cases hB : l.dropWhile fun x => sLt x.Name n with
  | nil => intro x hx; simp at hx
  | cons b B =>
   have hb := y9 hB
   intro x hx
   rcases List.mem_cons.1 hx with rfl | hx
   ·exact hb
   ·have hp : (l.dropWhile fun x => sLt x.Name n).Pairwise fun a b => sLt a.Name b.Name = true := by
     have := List.pairwise_map.1 hs
     rw [hsplit] at this
     exact (List.pairwise_append.1 this).2.1
    rw [hB] at hp
    have h1 := (List.pairwise_cons.1 hp).1 x hx
    cases h2 : sLt x.Name n with
    | false => rfl
    | true =>
     have h3 : sLt b.Name n = true := a2n _ _ _ h1 h2
     rw [h3] at hb; exact hb
 refine SS.uniq i9 ?_ (SS.put i9 hs n) fun x => ?_
 ·rw [b7c]
  show SS sLt _
  rw [SS, List.pairwise_map]
  have hp := List.pairwise_map.1 hs
  rw [hsplit] at hp
  obtain ⟨p1, p2, p3⟩ := List.pairwise_append.1 hp
  have hgt : ∀ x ∈ (l.dropWhile fun x => sLt x.Name n).filter (fun x => !(x.Name == n)), sLt n x.Name = true := fun x hx => by
   obtain ⟨h1, h2⟩ := List.mem_filter.1 hx
   have h3 := hBn x h1
   cases h4 : sLt n x.Name with
   | true => rfl
   | false =>
    have h5 := a1x _ _ h3 h4
    rw [h5] at h2; simp at h2
  refine List.pairwise_append.2 ⟨p1, List.pairwise_cons.2 ⟨hgt, p2.filter _⟩, fun a ha b hb => ?_⟩
  rcases List.mem_cons.1 hb with rfl | hb
  ·exact hA a ha
  ·exact a2n _ _ _ (hA a ha) (hgt b hb)
 ·rw [b8r, b7c]
  simp only [List.map_append, List.map_cons, List.mem_append, List.mem_cons, List.mem_map, List.mem_filter]
  constructor
  ·rintro (⟨y, hy, rfl⟩ | rfl | ⟨y, ⟨hy, _⟩, rfl⟩)
   ·exact .inr ⟨y, by rw [hsplit]; exact List.mem_append.2 (.inl hy), rfl⟩
   ·exact .inl rfl
   ·exact .inr ⟨y, by rw [hsplit]; exact List.mem_append.2 (.inr hy), rfl⟩
  ·rintro (rfl | ⟨y, hy, rfl⟩)
   ·exact .inr (.inl rfl)
   ·rw [hsplit] at hy
    rcases List.mem_append.1 hy with hy | hy
    ·exact .inl ⟨y, hy, rfl⟩
    ·by_cases e : y.Name = n
     ·exact .inr (.inl e)
     ·exact .inr (.inr ⟨y, ⟨hy, by simpa using e⟩, rfl⟩)
theorem c3Z {l : List GNamed} {n : List UInt8} {v x : GNamed} (h : x ∈ a9G l n v) : x = v ∨ x ∈ l := by
 rw [b7c] at h
 rcases List.mem_append.1 h with h | h
 ·exact .inr (List.takeWhile_sublist _ |>.mem h)
 ·rcases List.mem_cons.1 h with h | h
  ·exact .inl h
  ·exact .inr (List.dropWhile_sublist _ |>.mem (List.mem_filter.1 h).1)
def o0 (l : List GDecl) : List GNamed := l.foldl (fun s d => a9G s d.Name ⟨d.Name, ⟨d.Arity, []⟩⟩) []
theorem a8Y : ∀ l : List GDecl, (o0 l).map GNamed.Name = f9 sLt [] (l.map GDecl.Name) := by
 intro l
 have gen : ∀ (l : List GDecl) (s : List GNamed), SS sLt (s.map GNamed.Name) → (l.foldl (fun s d => a9G s d.Name ⟨d.Name, ⟨d.Arity, []⟩⟩) s).map GNamed.Name = f9 sLt (s.map GNamed.Name) (l.map GDecl.Name) := by
  intro l
  induction l with
  | nil => intro s _; rfl
  | cons d l ih =>
   intro s hs
   have e := c0f hs d.Name ⟨d.Arity, []⟩
   have hs2 : SS sLt ((a9G s d.Name ⟨d.Name, ⟨d.Arity, []⟩⟩).map GNamed.Name) := by rw [e]; exact SS.put i9 hs _
   rw [List.foldl_cons, ih _ hs2, e]; rfl
 exact gen l [] SS.nil
theorem b7P : ∀ l : List GDecl, ∀ x ∈ o0 l, x.Rel.Rows = [] := by
 intro l
 have gen : ∀ (l : List GDecl) (s : List GNamed), (∀ x ∈ s, x.Rel.Rows = []) → ∀ x ∈ l.foldl (fun s d => a9G s d.Name ⟨d.Name, ⟨d.Arity, []⟩⟩) s, x.Rel.Rows = [] := by
  intro l
  induction l with
  | nil => intro s h; exact h
  | cons d l ih =>
   intro s h
   rw [List.foldl_cons]
   refine ih _ fun x hx => ?_
   rcases c3Z hx with rfl | hx
   ·rfl
   ·exact h x hx
 exact gen l [] (by simp)
theorem b2U (l : List GDecl) : (o0 l).length ≤ l.length := by
 have h := congrArg List.length (a8Y l)
 have h2 := z6 sLt (l.map GDecl.Name) []
 simp only [List.length_map, List.length_nil] at h h2
 omega
end Go.Aw
