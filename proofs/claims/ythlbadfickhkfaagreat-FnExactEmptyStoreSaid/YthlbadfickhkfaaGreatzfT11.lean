/- What a view leans on. No condition. -/
import Derived.Test.YthlbadfickhkfaaGreatzfT2
import Derived.Test.YthlbadfickhkfaaGreatzfT7
namespace Go.Aw
open Go.Proofs
attribute [local irreducible] aft blk lpK retK AW A0l
set_option linter.unusedVariables false
set_option linter.unusedSimpArgs false
set_option maxRecDepth 100000
def bodyN (r : c6) : List (List UInt8) := ((l3 r).drop 1).map d4.Name
def c0f (p : c8) (a : List UInt8) (r : c6) : Bool := (r.Kind == 1 && a5Y p r.Head.Name == 3) && r.Head.Name == a
def a1n (p : c8) (a : List UInt8) : List (List UInt8) := (p.Rules.filter (c0f p a)).flatMap bodyN
inductive Rch (p : c8) (a : List UInt8) : List UInt8 → Prop
 | one {b : List UInt8} : b ∈ a1n p a → Rch p a b
 | step {b c : List UInt8} : Rch p a b → c ∈ a1n p b → Rch p a c
def b3J (p : c8) : List (List UInt8) := p.Rules.flatMap bodyN
theorem b2J {p : c8} {a b : List UInt8} (h : b ∈ a1n p a) : b ∈ b3J p := by
 obtain ⟨r, hr, hb⟩ := List.mem_flatMap.1 h
 exact List.mem_flatMap.2 ⟨r, (List.mem_filter.1 hr).1, hb⟩
theorem Rch.all {p : c8} {a b : List UInt8} (h : Rch p a b) : b ∈ b3J p := by
 cases h with
 | one h => exact b2J h
 | step _ h => exact b2J h
theorem Rch.mem {p : c8} {a : List UInt8} {l : List (List UInt8)} (h1 : ∀ x ∈ a1n p a, x ∈ l) (h2 : ∀ x ∈ l, ∀ y ∈ a1n p x, y ∈ l) {b : List UInt8} (h : Rch p a b) : b ∈ l := by
 induction h with
 | one h => exact h1 _ h
 | step _ h ih => exact h2 _ ih _ h
open Classical in
noncomputable def reachS (p : c8) (a : List UInt8) : List (List UInt8) := (a4K sLt [] (b3J p)).filter fun v => decide (Rch p a v)
noncomputable def leans (p : c8) (a b : List UInt8) : Bool := (f9 p).1 == 0 && (reachS p a).contains b
def a3m (o l : List (List UInt8)) : List (List UInt8) := l.foldl (fun o y => if y ∈ o then o else o ++ [y]) o
theorem b1m : ∀ (l o : List (List UInt8)), ∃ s, a3m o l = o ++ s ∧ (∀ x ∈ s, x ∈ l)
 | [], o => ⟨[], by simp [a3m], by simp⟩
 | y :: l, o => by
   by_cases h : y ∈ o
   ·obtain ⟨s, e, hs⟩ := b1m l o
    exact ⟨s, by rw [← e]; simp [a3m, h], fun x hx => List.mem_cons_of_mem _ (hs x hx)⟩
   ·obtain ⟨s, e, hs⟩ := b1m l (o ++ [y])
    refine ⟨y :: s, ?_, ?_⟩
    ·have : a3m o (y :: l) = a3m (o ++ [y]) l := by simp [a3m, h]
     rw [this, e]; simp
    ·intro x hx
     rcases List.mem_cons.1 hx with rfl | hx
     ·simp
     ·exact List.mem_cons_of_mem _ (hs x hx)
theorem a3n {l o : List (List UInt8)} {x : List UInt8} : x ∈ a3m o l ↔ x ∈ o ∨ x ∈ l := by
 induction l generalizing o with
 | nil => simp [a3m]
 | cons y l ih =>
   have e : a3m o (y :: l) = a3m (if y ∈ o then o else o ++ [y]) l := rfl
   rw [e, ih]
   by_cases h : y ∈ o
   ·simp only [h, if_true, List.mem_cons]
    constructor
    ·rintro (h1 | h1); exact .inl h1; exact .inr (.inr h1)
    ·rintro (h1 | rfl | h1); exact .inl h1; exact .inl h; exact .inr h1
   ·rw [if_neg h, List.mem_append, List.mem_singleton, List.mem_cons, or_assoc]
theorem a6P : ∀ {l o : List (List UInt8)}, o.Nodup → (a3m o l).Nodup
 | [], o, h => h
 | y :: l, o, h => by
   have e : a3m o (y :: l) = a3m (if y ∈ o then o else o ++ [y]) l := rfl
   rw [e]
   by_cases hy : y ∈ o
   ·rw [if_pos hy]; exact a6P h
   ·rw [if_neg hy]
    refine a6P (List.nodup_append.2 ⟨h, by simp, ?_⟩)
    intro a ha b hb
    rw [List.mem_singleton] at hb
    rintro rfl
    exact hy (hb ▸ ha)
def univ (p : c8) : Nat := (b3J p).length
structure FInv (p : c8) (v : List UInt8) (k : Nat) (o n : List (List UInt8)) : Prop where
 nd : o.Nodup
 un : ∀ x ∈ o, x ∈ b3J p
 ok : ∀ x ∈ o, Rch p v x
 nx : ∀ x ∈ n, x = v ∨ x ∈ o
 cl : ∀ x, x = v ∨ x ∈ o → x ∈ n ∨ ∀ y ∈ a1n p x, y ∈ o
 ms : n = [] ∨ k + 2 * (univ p - o.length) + n.length ≤ 2 * univ p + 1
theorem b3S {α : Type} [DecidableEq α] : ∀ {l m : List α}, l.Nodup → (∀ x ∈ l, x ∈ m) → l.length ≤ m.length
 | [], _, _, _ => Nat.zero_le _
 | x :: l, m, h, hm => by
   rw [List.nodup_cons] at h
   have h1 := b3S (l := l) (m := m.erase x) h.2 fun y hy => (List.mem_erase_of_ne (fun e => h.1 (by rw [← e]; exact hy))).2 (hm y (by simp [hy]))
   have h2 := List.length_erase_of_mem (hm x (by simp))
   have h3 : 0 < m.length := List.length_pos_of_mem (hm x (by simp))
   simp only [List.length_cons]; omega
theorem FInv.step {p : c8} {v : List UInt8} {k : Nat} {o r : List (List UInt8)} {x : List UInt8} (h : FInv p v k o (x :: r)) : FInv p v (k + 1) (a3m o (a1n p x)) (r ++ (a3m o (a1n p x)).drop o.length) := by
 obtain ⟨s, e, hs⟩ := b1m (a1n p x) o
 have hd : (a3m o (a1n p x)).drop o.length = s := by rw [e]; simp
 have hx : x = v ∨ Rch p v x := (h.nx x (by simp)).imp id (h.ok x)
 have hR : ∀ y ∈ a1n p x, Rch p v y := fun y hy => by
  rcases hx with rfl | hx
  ·exact .one hy
  ·exact .step hx hy
 have hun : ∀ y ∈ a3m o (a1n p x), y ∈ b3J p := fun y hy => (a3n.1 hy).elim (h.un y) b2J
 have hnd := a6P (l := a1n p x) h.nd
 refine ⟨hnd, hun, fun y hy => (a3n.1 hy).elim (h.ok y) (hR y), ?_, ?_, ?_⟩
 ·intro y hy
  rw [hd] at hy
  rcases List.mem_append.1 hy with hy | hy
  ·exact (h.nx y (by simp [hy])).imp id fun hy => a3n.2 (.inl hy)
  ·exact .inr (a3n.2 (.inr (hs y hy)))
 ·intro y hy
  rw [hd]
  have old : y = v ∨ y ∈ o → y ∈ r ++ s ∨ ∀ z ∈ a1n p y, z ∈ a3m o (a1n p x) := by
   intro hy
   rcases h.cl y hy with h1 | h1
   ·rcases List.mem_cons.1 h1 with rfl | h1
    ·exact .inr fun z hz => a3n.2 (.inr hz)
    ·exact .inl (List.mem_append.2 (.inl h1))
   ·exact .inr fun z hz => a3n.2 (.inl (h1 z hz))
  rcases hy with hy | hy
  ·exact old (.inl hy)
  ·rw [e] at hy
   rcases List.mem_append.1 hy with hy | hy
   ·exact old (.inr hy)
   ·exact .inl (List.mem_append.2 (.inr hy))
 ·right
  have h1 := b3S hnd hun
  have h2 : (a3m o (a1n p x)).length = o.length + s.length := by rw [e, List.length_append]
  have h3 := h.ms.resolve_left (by simp)
  rw [hd]
  simp only [List.length_cons, List.length_append, univ] at h1 h3 ⊢
  omega
def nextF (p : c8) (a : List UInt8) (n : Nat) : List (List UInt8) := ((p.Rules.take n).filter (c0f p a)).flatMap bodyN
@[go_sem] theorem nextF_zero (p : c8) (a : List UInt8) : nextF p a 0 = [] := rfl
@[go_sem] theorem putsN_nil (l : List (List UInt8)) : a4K sLt l [] = l := rfl
@[go_sem] theorem addL_nil (o : List (List UInt8)) : a3m o [] = o := rfl
theorem a7y {p : c8} (h : ((f9 p).1 == 0) = true) : l9 p = true := by
 cases hB : l9 p with
 | true => rfl
 | false => rw [a0K hB] at h; simp at h
def a1s : ACode := q' ([o' 1 (.box 2 (.t 0)), b' 2 false]) (q' ([e' 6 2 1, c' 7 138 [6], m' 5 7, o' 8 (.ext (.t 5) 0), o' 9 (.ext (.t 5) 1), m' 3 8, m' 4 9]) (q' ([m' 10 3, o' 11
 (.bin .eql (.t 10) (k' 0)), m' 2 11]) .ret))
theorem a7i : cmp Tryz.prog Tryz.f66 = some a1s := by kernel_rfl
theorem a8t (p : c8) : A0l Tryz.prog 66 [(true, [.sl false [.i .i64 0, .s [], .i .i64 0] (p.Decls.map c7.cells), .sl false [.i .i64 0, .s [], .sl false [.s [], .i .i64 0, .s []] [], .sl false [.i .i64 0, .s [], .sl false [.s [], .i .i64 0, .s []] [], .i .i64 0, .s [], .i .i64 0, .s [], .s [], .i .i64 0, .s []] []] (p.Rules.map (c6.cells false false))])] [] (.one (false, [.b ((f9 p).1 == 0)])) := by
 refine spec_of2 false false none Tryz.func66 a7i (rvs := [.t 2]) (hΓ := mkCtx_ok (deep := false) (l := [(138, [], y3)]) ⟨a5H, trivial⟩) (h := ?_)
 intro hb hE
 simp only [go_sem] at hb
 simp only [a1s, x']
 (try refine A2V ?_); simp only [go_sem]; (repeat' first | apply CJ.mk | intro hc); all_goals try ((repeat' first | apply And.intro | intro hs) <;> (try simp only [go_sem, Bool.and_eq_false_iff] at hs) <;> omega)
 all_goals (first | rfl | trace_state)
noncomputable def y7 : CT := i6 (fun (x : c8) => a8t x)
@[go_sem] theorem b5f (x0 : List c7) (x1 : List c6) : y7 [(true, [.sl false [.i .i64 0, .s [], .i .i64 0] (x0.map c7.cells), .sl false [.i .i64 0, .s [], .sl false [.s [], .i .i64 0, .s []] [], .sl false [.i .i64 0, .s [], .sl false [.s [], .i .i64 0, .s []] [], .i .i64 0, .s [], .i .i64 0, .s [], .s [], .i .i64 0, .s []] []] (x1.map (c6.cells false false))])] = some (True, [], .one (false, [.b ((f9 (c8.mk x0 x1)).1 == 0)])) := f7 _ (by rintro ⟨_, _⟩ ⟨_, _⟩ h; simp at h; simp_all) (c8.mk x0 x1)
theorem a5J : OkC Tryz.prog 66 y7 := f8 _
@[go_sem] theorem c0m (l o : List (List UInt8)) : l ++ List.drop o.length o = l := by simp
end Go.Aw
