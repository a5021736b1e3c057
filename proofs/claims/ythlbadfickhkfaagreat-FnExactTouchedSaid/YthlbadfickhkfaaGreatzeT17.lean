/- Setting a name in a sorted list: mathematics. No condition. -/
import Derived.Test.YthlbadfickhkfaaGreatzeT12
namespace Go.Aw
open Go.Proofs
attribute [local irreducible] aft blk lpK retK AW A0n
set_option linter.unusedVariables false
set_option linter.unusedSimpArgs false
set_option maxRecDepth 100000
def w6 (n : List UInt8) (v : GNamed) (q : List GNamed × Bool) (x : GNamed) : List GNamed × Bool := ((bif !q.2 && !sLt x.Name n then q.1 ++ [v] else q.1) ++ (bif x.Name == n then [] else [x]), q.2 || !sLt x.Name n)
def a8g (n : List UInt8) (v : GNamed) (l : List GNamed) : List GNamed × Bool := l.foldl (w6 n v) ([], false)
def b0v (l : List GNamed) (n : List UInt8) (v : GNamed) : List GNamed := bif (a8g n v l).2 then (a8g n v l).1 else (a8g n v l).1 ++ [v]
theorem a5f (n : List UInt8) (v : GNamed) {l : List GNamed} {i : Nat} (h : i < l.length) : a8g n v (l.take (i + 1)) = w6 n v (a8g n v (l.take i)) (l.getD i default) := by
 rw [d3 default h, a8g, List.foldl_append]; rfl
theorem c1S (n : List UInt8) (v : GNamed) : ∀ (A q : List GNamed), (∀ x ∈ A, sLt x.Name n = true) → A.foldl (w6 n v) (q, false) = (q ++ A, false)
 | [], q, _ => by simp
 | x :: A, q, h => by
  have hx := h x (by simp)
  have hne : (x.Name == n) = false := beq_eq_false_iff_ne.2 (e8.ne hx)
  rw [List.foldl_cons, w6, hx, hne]
  have := c1S n v A (q ++ [x]) fun y hy => h y (by simp [hy])
  simpa using this
theorem b1c (n : List UInt8) (v : GNamed) : ∀ (B q : List GNamed), B.foldl (w6 n v) (q, true) = (q ++ B.filter fun x => !(x.Name == n), true)
 | [], q => by simp
 | x :: B, q => by
  rw [List.foldl_cons, w6]
  cases h : (x.Name == n) with
  | true =>
   have := b1c n v B q
   simpa [h] using this
  | false =>
   have := b1c n v B (q ++ [x])
   simpa [h] using this
theorem c1e {α : Type} {q : α → Bool} : ∀ {l : List α} {x : α}, x ∈ l.takeWhile q → q x = true
 | [], x, h => by simp at h
 | a :: l, x, h => by
  rw [List.takeWhile_cons] at h
  split at h
  · rename_i ha
   rcases List.mem_cons.1 h with rfl | h
   · exact ha
   · exact c1e h
  · simp at h
theorem b7S (l : List GNamed) (n : List UInt8) (v : GNamed) : b0v l n v = l.takeWhile (fun x => sLt x.Name n) ++ v :: (l.dropWhile fun x => sLt x.Name n).filter fun x => !(x.Name == n) := by
 have e : a8g n v l = (l.dropWhile fun x => sLt x.Name n).foldl (w6 n v) (l.takeWhile (fun x => sLt x.Name n), false) := by
  have h0 := c1S n v (l.takeWhile fun x => sLt x.Name n) [] fun x hx => c1e (q := fun x : GNamed => sLt x.Name n) hx
  rw [List.nil_append] at h0
  rw [← h0, ← List.foldl_append, List.takeWhile_append_dropWhile]; rfl
 rw [b0v, e]
 cases hB : l.dropWhile fun x => sLt x.Name n with
 | nil => simp
 | cons b B =>
  have hb := a0l hB
  rw [List.foldl_cons, w6, hb]
  simp only [Bool.not_false, Bool.and_self, cond_true, Bool.or_true]
  rw [b1c]
  cases hn : (b.Name == n) with
  | true => simp [hn]
  | false => simp [hn]
theorem c1b {l : List GNamed} (hs : SS sLt (l.map GNamed.Name)) (n : List UInt8) (r : GRel) : (b0v l n ⟨n, r⟩).map GNamed.Name = z7 sLt (l.map GNamed.Name) n := by
 have hsplit : l = l.takeWhile (fun x => sLt x.Name n) ++ l.dropWhile (fun x => sLt x.Name n) := List.takeWhile_append_dropWhile.symm
 have hA : ∀ x ∈ l.takeWhile (fun x => sLt x.Name n), sLt x.Name n = true := fun x hx => c1e (q := fun x : GNamed => sLt x.Name n) hx
 have hBn : ∀ x ∈ l.dropWhile (fun x => sLt x.Name n), sLt x.Name n = false := by
  cases hB : l.dropWhile fun x => sLt x.Name n with
  | nil => intro x hx; simp at hx
  | cons b B =>
   have hb := a0l hB
   intro x hx
   rcases List.mem_cons.1 hx with rfl | hx
   · exact hb
   · have hp : (l.dropWhile fun x => sLt x.Name n).Pairwise fun a b => sLt a.Name b.Name = true := by
     have := List.pairwise_map.1 hs
     rw [hsplit] at this
     exact (List.pairwise_append.1 this).2.1
    rw [hB] at hp
    have h1 := (List.pairwise_cons.1 hp).1 x hx
    cases h2 : sLt x.Name n with
    | false => rfl
    | true =>
     have h3 : sLt b.Name n = true := a2N _ _ _ h1 h2
     rw [h3] at hb; exact hb
 refine SS.uniq e8 ?_ (SS.put e8 hs n) fun x => ?_
 · rw [b7S]
  show SS sLt _
  rw [SS, List.pairwise_map]
  have hp := List.pairwise_map.1 hs
  rw [hsplit] at hp
  obtain ⟨p1, p2, p3⟩ := List.pairwise_append.1 hp
  have hgt : ∀ x ∈ (l.dropWhile fun x => sLt x.Name n).filter (fun x => !(x.Name == n)), sLt n x.Name = true := fun x hx => by
   obtain ⟨h1, h2⟩ := List.mem_filter.1 hx
   have h3 := hBn x h1
   cases h4 : sLt n x.Name with
   | true => rfl
   | false =>
    have h5 := a1V _ _ h3 h4
    rw [h5] at h2; simp at h2
  refine List.pairwise_append.2 ⟨p1, List.pairwise_cons.2 ⟨hgt, p2.filter _⟩, fun a ha b hb => ?_⟩
  rcases List.mem_cons.1 hb with rfl | hb
  · exact hA a ha
  · exact a2N _ _ _ (hA a ha) (hgt b hb)
 · rw [b0r, b7S]
  simp only [List.map_append, List.map_cons, List.mem_append, List.mem_cons, List.mem_map, List.mem_filter]
  constructor
  · rintro (⟨y, hy, rfl⟩ | rfl | ⟨y, ⟨hy, _⟩, rfl⟩)
   · exact .inr ⟨y, by rw [hsplit]; exact List.mem_append.2 (.inl hy), rfl⟩
   · exact .inl rfl
   · exact .inr ⟨y, by rw [hsplit]; exact List.mem_append.2 (.inr hy), rfl⟩
  · rintro (rfl | ⟨y, hy, rfl⟩)
   · exact .inr (.inl rfl)
   · rw [hsplit] at hy
    rcases List.mem_append.1 hy with hy | hy
    · exact .inl ⟨y, hy, rfl⟩
    · by_cases e : y.Name = n
     · exact .inr (.inl e)
     · exact .inr (.inr ⟨y, ⟨hy, by simpa using e⟩, rfl⟩)
theorem c4Y {l : List GNamed} {n : List UInt8} {v x : GNamed} (h : x ∈ b0v l n v) : x = v ∨ x ∈ l := by
 rw [b7S] at h
 rcases List.mem_append.1 h with h | h
 · exact .inr (List.takeWhile_sublist _ |>.mem h)
 · rcases List.mem_cons.1 h with h | h
  · exact .inl h
  · exact .inr (List.dropWhile_sublist _ |>.mem (List.mem_filter.1 h).1)
def k9 (l : List GDecl) : List GNamed := l.foldl (fun s d => b0v s d.Name ⟨d.Name, ⟨d.Arity, []⟩⟩) []
theorem a5e : ∀ l : List GDecl, (k9 l).map GNamed.Name = d9 sLt [] (l.map GDecl.Name) := by
 intro l
 have gen : ∀ (l : List GDecl) (s : List GNamed), SS sLt (s.map GNamed.Name) → (l.foldl (fun s d => b0v s d.Name ⟨d.Name, ⟨d.Arity, []⟩⟩) s).map GNamed.Name = d9 sLt (s.map GNamed.Name) (l.map GDecl.Name) := by
  intro l
  induction l with
  | nil => intro s _; rfl
  | cons d l ih =>
   intro s hs
   have e := c1b hs d.Name ⟨d.Arity, []⟩
   have hs2 : SS sLt ((b0v s d.Name ⟨d.Name, ⟨d.Arity, []⟩⟩).map GNamed.Name) := by rw [e]; exact SS.put e8 hs _
   rw [List.foldl_cons, ih _ hs2, e]; rfl
 exact gen l [] SS.nil
theorem b8H : ∀ l : List GDecl, ∀ x ∈ k9 l, x.Rel.Rows = [] := by
 intro l
 have gen : ∀ (l : List GDecl) (s : List GNamed), (∀ x ∈ s, x.Rel.Rows = []) → ∀ x ∈ l.foldl (fun s d => b0v s d.Name ⟨d.Name, ⟨d.Arity, []⟩⟩) s, x.Rel.Rows = [] := by
  intro l
  induction l with
  | nil => intro s h; exact h
  | cons d l ih =>
   intro s h
   rw [List.foldl_cons]
   refine ih _ fun x hx => ?_
   rcases c4Y hx with rfl | hx
   · rfl
   · exact h x hx
 exact gen l [] (by simp)
theorem b3X (l : List GDecl) : (k9 l).length ≤ l.length := by
 have h := congrArg List.length (a5e l)
 have h2 := s5 sLt (l.map GDecl.Name) []
 simp only [List.length_map, List.length_nil] at h h2
 omega
end Go.Aw
