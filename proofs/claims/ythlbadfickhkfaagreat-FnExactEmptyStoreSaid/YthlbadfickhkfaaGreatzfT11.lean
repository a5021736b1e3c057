/- What a view leans on. No condition. -/
import Derived.Test.YthlbadfickhkfaaGreatzfT2
import Derived.Test.YthlbadfickhkfaaGreatzfT7
namespace Go.Aw
open Go.Proofs
attribute [local irreducible] aft blk lpK retK AW A0l
set_option linter.unusedVariables false
set_option linter.unusedSimpArgs false
set_option maxRecDepth 100000
def bodyN (r : c6) : List (List UInt8) := ((k9 r).drop 1).map d4.Name
def c0e (p : c8) (a : List UInt8) (r : c6) : Bool := (r.Kind == 1 && a5X p r.Head.Name == 3) && r.Head.Name == a
def a1m (p : c8) (a : List UInt8) : List (List UInt8) := (p.Rules.filter (c0e p a)).flatMap bodyN
inductive Rch (p : c8) (a : List UInt8) : List UInt8 → Prop
 | one {b : List UInt8} : b ∈ a1m p a → Rch p a b
 | step {b c : List UInt8} : Rch p a b → c ∈ a1m p b → Rch p a c
def b3H (p : c8) : List (List UInt8) := p.Rules.flatMap bodyN
theorem b2H {p : c8} {a b : List UInt8} (h : b ∈ a1m p a) : b ∈ b3H p := by
 obtain ⟨r, hr, hb⟩ := List.mem_flatMap.1 h
 exact List.mem_flatMap.2 ⟨r, (List.mem_filter.1 hr).1, hb⟩
theorem Rch.all {p : c8} {a b : List UInt8} (h : Rch p a b) : b ∈ b3H p := by
 cases h with
 | one h => exact b2H h
 | step _ h => exact b2H h
theorem Rch.mem {p : c8} {a : List UInt8} {l : List (List UInt8)} (h1 : ∀ x ∈ a1m p a, x ∈ l) (h2 : ∀ x ∈ l, ∀ y ∈ a1m p x, y ∈ l) {b : List UInt8} (h : Rch p a b) : b ∈ l := by
 induction h with
 | one h => exact h1 _ h
 | step _ h ih => exact h2 _ ih _ h
open Classical in
noncomputable def reachS (p : c8) (a : List UInt8) : List (List UInt8) := (a4J sLt [] (b3H p)).filter fun v => decide (Rch p a v)
open Classical in
noncomputable def leans (p : c8) (a b : List UInt8) : Bool := (f9 p).1 == 0 && (reachS p a).contains b
def a3l (o l : List (List UInt8)) : List (List UInt8) := l.foldl (fun o y => if y ∈ o then o else o ++ [y]) o
theorem b1k : ∀ (l o : List (List UInt8)), ∃ s, a3l o l = o ++ s ∧ (∀ x ∈ s, x ∈ l)
 | [], o => ⟨[], by simp [a3l], by simp⟩
 | y :: l, o => by
  by_cases h : y ∈ o
  ·obtain ⟨s, e, hs⟩ := b1k l o
   exact ⟨s, by rw [← e]; simp [a3l, h], fun x hx => List.mem_cons_of_mem _ (hs x hx)⟩
  ·obtain ⟨s, e, hs⟩ := b1k l (o ++ [y])
   refine ⟨y :: s, ?_, ?_⟩
   ·have : a3l o (y :: l) = a3l (o ++ [y]) l := by simp [a3l, h]
    rw [this, e]; simp
   ·intro x hx
    rcases List.mem_cons.1 hx with rfl | hx
    ·simp
    ·exact List.mem_cons_of_mem _ (hs x hx)
theorem a3m {l o : List (List UInt8)} {x : List UInt8} : x ∈ a3l o l ↔ x ∈ o ∨ x ∈ l := by
 induction l generalizing o with
 | nil => simp [a3l]
 | cons y l ih =>
  have e : a3l o (y :: l) = a3l (if y ∈ o then o else o ++ [y]) l := rfl
  rw [e, ih]
  by_cases h : y ∈ o
  ·simp only [h, if_true, List.mem_cons]
   constructor
   ·rintro (h1 | h1); exact .inl h1; exact .inr (.inr h1)
   ·rintro (h1 | rfl | h1); exact .inl h1; exact .inl h; exact .inr h1
  ·rw [if_neg h, List.mem_append, List.mem_singleton, List.mem_cons, or_assoc]
theorem a6N : ∀ {l o : List (List UInt8)}, o.Nodup → (a3l o l).Nodup
 | [], o, h => h
 | y :: l, o, h => by
  have e : a3l o (y :: l) = a3l (if y ∈ o then o else o ++ [y]) l := rfl
  rw [e]
  by_cases hy : y ∈ o
  ·rw [if_pos hy]; exact a6N h
  ·rw [if_neg hy]
   refine a6N (List.nodup_append.2 ⟨h, by simp, ?_⟩)
   intro a ha b hb
   rw [List.mem_singleton] at hb
   rintro rfl
   exact hy (hb ▸ ha)
def univ (p : c8) : Nat := (b3H p).length
structure FInv (p : c8) (v : List UInt8) (k : Nat) (o n : List (List UInt8)) : Prop where
 nd : o.Nodup
 un : ∀ x ∈ o, x ∈ b3H p
 ok : ∀ x ∈ o, Rch p v x
 nx : ∀ x ∈ n, x = v ∨ x ∈ o
 cl : ∀ x, x = v ∨ x ∈ o → x ∈ n ∨ ∀ y ∈ a1m p x, y ∈ o
 ms : n = [] ∨ k + 2 * (univ p - o.length) + n.length ≤ 2 * univ p + 1
theorem b3Q {α : Type} [DecidableEq α] : ∀ {l m : List α}, l.Nodup → (∀ x ∈ l, x ∈ m) → l.length ≤ m.length
 | [], _, _, _ => Nat.zero_le _
 | x :: l, m, h, hm => by
  rw [List.nodup_cons] at h
  have h1 := b3Q (l := l) (m := m.erase x) h.2 fun y hy => (List.mem_erase_of_ne (fun e => h.1 (by rw [← e]; exact hy))).2 (hm y (by simp [hy]))
  have h2 := List.length_erase_of_mem (hm x (by simp))
  have h3 : 0 < m.length := List.length_pos_of_mem (hm x (by simp))
  simp only [List.length_cons]; omega
theorem FInv.step {p : c8} {v : List UInt8} {k : Nat} {o r : List (List UInt8)} {x : List UInt8} (h : FInv p v k o (x :: r)) : FInv p v (k + 1) (a3l o (a1m p x)) (r ++ (a3l o (a1m p x)).drop o.length) := by
 obtain ⟨s, e, hs⟩ := b1k (a1m p x) o
 have hd : (a3l o (a1m p x)).drop o.length = s := by rw [e]; simp
 have hx : x = v ∨ Rch p v x := (h.nx x (by simp)).imp id (h.ok x)
 have hR : ∀ y ∈ a1m p x, Rch p v y := fun y hy => by
  rcases hx with rfl | hx
  ·exact .one hy
  ·exact .step hx hy
 have hun : ∀ y ∈ a3l o (a1m p x), y ∈ b3H p := fun y hy => (a3m.1 hy).elim (h.un y) b2H
 have hnd := a6N (l := a1m p x) h.nd
 refine ⟨hnd, hun, fun y hy => (a3m.1 hy).elim (h.ok y) (hR y), ?_, ?_, ?_⟩
 ·intro y hy
  rw [hd] at hy
  rcases List.mem_append.1 hy with hy | hy
  ·exact (h.nx y (by simp [hy])).imp id fun hy => a3m.2 (.inl hy)
  ·exact .inr (a3m.2 (.inr (hs y hy)))
 ·intro y hy
  rw [hd]
  have old : y = v ∨ y ∈ o → y ∈ r ++ s ∨ ∀ z ∈ a1m p y, z ∈ a3l o (a1m p x) := by
   intro hy
   rcases h.cl y hy with h1 | h1
   ·rcases List.mem_cons.1 h1 with rfl | h1
    ·exact .inr fun z hz => a3m.2 (.inr hz)
    ·exact .inl (List.mem_append.2 (.inl h1))
   ·exact .inr fun z hz => a3m.2 (.inl (h1 z hz))
  rcases hy with hy | hy
  ·exact old (.inl hy)
  ·rw [e] at hy
   rcases List.mem_append.1 hy with hy | hy
   ·exact old (.inr hy)
   ·exact .inl (List.mem_append.2 (.inr hy))
 ·right
  have h1 := b3Q hnd hun
  have h2 : (a3l o (a1m p x)).length = o.length + s.length := by rw [e, List.length_append]
  have h3 := h.ms.resolve_left (by simp)
  rw [hd]
  simp only [List.length_cons, List.length_append, univ] at h1 h3 ⊢
  omega
def nextF (p : c8) (a : List UInt8) (n : Nat) : List (List UInt8) := ((p.Rules.take n).filter (c0e p a)).flatMap bodyN
@[go_sem] theorem nextF_zero (p : c8) (a : List UInt8) : nextF p a 0 = [] := rfl
@[go_sem] theorem putsN_nil (l : List (List UInt8)) : a4J sLt l [] = l := rfl
@[go_sem] theorem addL_nil (o : List (List UInt8)) : a3l o [] = o := rfl
theorem a7w {p : c8} (h : ((f9 p).1 == 0) = true) : l8 p = true := by
 cases hB : l8 p with
 | true => rfl
 | false => rw [a0J hB] at h; simp at h
def a1r : ACode := q' ([o' 1 (.box 2 (.t 0)), b' 2 false]) (q' ([e' 6 2 1, c' 7 138 [6], m' 5 7, o' 8 (.ext (.t 5) 0), o' 9 (.ext (.t 5) 1), m' 3 8, m' 4 9]) (q' ([m' 10 3, o' 11
 (.bin .eql (.t 10) (k' 0)), m' 2 11]) .ret))
theorem a7g : cmp Tryz.prog Tryz.f66 = some a1r := by kernel_rfl
theorem a8r (p : c8) : A0l Tryz.prog 66 [(true, [.sl false [.i .i64 0, .s [], .i .i64 0] (p.Decls.map c7.cells), .sl false [.i .i64 0, .s [], .sl false [.s [], .i .i64 0, .s []] [], .sl false [.i .i64 0, .s [], .sl false [.s [], .i .i64 0, .s []] [], .i .i64 0, .s [], .i .i64 0, .s [], .s [], .i .i64 0, .s []] []] (p.Rules.map (c6.cells false false))])] [] (.one (false, [.b ((f9 p).1 == 0)])) := by
 refine spec_of2 false false none Tryz.func66 a7g (rvs := [.t 2]) (hΓ := mkCtx_ok (deep := false) (l := [(138, [], w9)]) ⟨a5G, trivial⟩) (h := ?_)
 intro hb hE
 simp only [go_sem] at hb
 simp only [a1r, x']
 (try refine A2V ?_); simp only [go_sem]; (repeat' first | apply CJ.mk | intro hc); all_goals try ((repeat' first | apply And.intro | intro hs) <;> (try simp only [go_sem, Bool.and_eq_false_iff] at hs) <;> omega)
 all_goals (first | rfl | trace_state)
noncomputable def y6 : CT := i6 (fun (x : c8) => a8r x)
@[go_sem] theorem b5d (x0 : List c7) (x1 : List c6) : y6 [(true, [.sl false [.i .i64 0, .s [], .i .i64 0] (x0.map c7.cells), .sl false [.i .i64 0, .s [], .sl false [.s [], .i .i64 0, .s []] [], .sl false [.i .i64 0, .s [], .sl false [.s [], .i .i64 0, .s []] [], .i .i64 0, .s [], .i .i64 0, .s [], .s [], .i .i64 0, .s []] []] (x1.map (c6.cells false false))])] = some (True, [], .one (false, [.b ((f9 (c8.mk x0 x1)).1 == 0)])) := f7 _ (by rintro ⟨_, _⟩ ⟨_, _⟩ h; simp at h; simp_all) (c8.mk x0 x1)
theorem a5I : OkC Tryz.prog 66 y6 := f8 _
@[go_sem] theorem c0l (l o : List (List UInt8)) : l ++ List.drop o.length o = l := by simp
end Go.Aw
